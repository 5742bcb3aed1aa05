/- Texts TB TD. -/
import Derived.Test.YtohlomdapelgeaaGreatDoorDK
import Derived.Test.YtohlomdapelgeaaGreatDoorCK
import Derived.Test.YtohlomdapelgeaaGreatDoorDG
namespace Go.Proofs.YtohlomdapelgeaaGreatDoor
open _root_.Go.Proofs.Tryz
open Go.RowKit
open _root_.Go.Act renaming put->aK
open _root_.Bool renaming and_eq_true->aQ
open _root_.Go.Lib renaming hid->aB
open _root_.List renaming all_eq_true->jA,length_append->bD,setIfInBounds_toArray->aA,set_cons_succ->aF,set_cons_zero->aD
open _root_.Nat renaming le_trans->jH
open NoPanic renaming normal->bF
open _root_.Go.Region renaming wanted->jG
set_option maxRecDepth 100000
set_option maxHeartbeats 4000000
section
abbrev fnE(n:Int)(f:FuncId)(b:Nat):MapEntry:={key:= .int .i64 n,val:= .func (.func f) #[] #[],born:=b}
abbrev ztextsAll:Array MapEntry:= #[fnE 1 57 0,fnE 2 66 1,fnE 3 69 2,fnE 4 70 3]
theorem ztexts_any(W:World):eg 22 #[] W fun e w'=>e= .returned (.map (some W.heap.size))/\Bl W w'/\w'.heap[W.heap.size]?=some (.map ztextsAll 4):=by
 have hmm:= @run_makeMap prog;have h0:∀w:World,(Instr.mapUpdate 76 (.map (some w.heap.size)) (.int .i64 1) (.func (.func 57) #[] #[])).run prog (w.alloc (.map #[] 0))= .ok () (w.alloc (.map #[fnE 1 57 0] 1)):=fun w=>eQ underlying76 underlying24 w #[] 0 1 _ rfl;have h1:∀w:World,(Instr.mapUpdate 76 (.map (some w.heap.size)) (.int .i64 2) (.func (.func 66) #[] #[])).run prog (w.alloc (.map #[fnE 1 57 0] 1))= .ok () (w.alloc (.map #[fnE 1 57 0,fnE 2 66 1] 2)):=fun w=>eQ underlying76 underlying24 w #[fnE 1 57 0] 1 2 _ rfl;have h2:∀w:World,(Instr.mapUpdate 76 (.map (some w.heap.size)) (.int .i64 3) (.func (.func 69) #[] #[])).run prog (w.alloc (.map #[fnE 1 57 0,fnE 2 66 1] 2))= .ok () (w.alloc (.map #[fnE 1 57 0,fnE 2 66 1,fnE 3 69 2] 3)):=fun w=>eQ underlying76 underlying24 w #[fnE 1 57 0,fnE 2 66 1] 2 3 _ rfl;have h3:∀w:World,(Instr.mapUpdate 76 (.map (some w.heap.size)) (.int .i64 4) (.func (.func 70) #[] #[])).run prog (w.alloc (.map #[fnE 1 57 0,fnE 2 66 1,fnE 3 69 2] 3))= .ok () (w.alloc (.map ztextsAll 4)):=fun w=>eQ underlying76 underlying24 w #[fnE 1 57 0,fnE 2 66 1,fnE 3 69 2] 3 4 _ rfl;go_enter func22,ntmps22;go_wp2;go_ret;exact⟨rfl,(Bl.refl W).alloc _,aN W _⟩
abbrev zkindsAll:Array MapEntry:= #[fnE 1 96 0,fnE 2 105 1,fnE 3 106 2,fnE 4 107 3]
theorem zkinds_any(W:World):eg 54 #[] W fun e w'=>e= .returned (.map (some W.heap.size))/\Bl W w'/\w'.heap[W.heap.size]?=some (.map zkindsAll 4):=by
 have hmm:= @run_makeMap prog;have h0:∀w:World,(Instr.mapUpdate 125 (.map (some w.heap.size)) (.int .i64 1) (.func (.func 96) #[] #[])).run prog (w.alloc (.map #[] 0))= .ok () (w.alloc (.map #[fnE 1 96 0] 1)):=fun w=>eQ underlying125 underlying24 w #[] 0 1 _ rfl;have h1:∀w:World,(Instr.mapUpdate 125 (.map (some w.heap.size)) (.int .i64 2) (.func (.func 105) #[] #[])).run prog (w.alloc (.map #[fnE 1 96 0] 1))= .ok () (w.alloc (.map #[fnE 1 96 0,fnE 2 105 1] 2)):=fun w=>eQ underlying125 underlying24 w #[fnE 1 96 0] 1 2 _ rfl;have h2:∀w:World,(Instr.mapUpdate 125 (.map (some w.heap.size)) (.int .i64 3) (.func (.func 106) #[] #[])).run prog (w.alloc (.map #[fnE 1 96 0,fnE 2 105 1] 2))= .ok () (w.alloc (.map #[fnE 1 96 0,fnE 2 105 1,fnE 3 106 2] 3)):=fun w=>eQ underlying125 underlying24 w #[fnE 1 96 0,fnE 2 105 1] 2 3 _ rfl;have h3:∀w:World,(Instr.mapUpdate 125 (.map (some w.heap.size)) (.int .i64 4) (.func (.func 107) #[] #[])).run prog (w.alloc (.map #[fnE 1 96 0,fnE 2 105 1,fnE 3 106 2] 3))= .ok () (w.alloc (.map zkindsAll 4)):=fun w=>eQ underlying125 underlying24 w #[fnE 1 96 0,fnE 2 105 1,fnE 3 106 2] 3 4 _ rfl;go_enter func54,ntmps54;go_wp2;go_ret;exact⟨rfl,(Bl.refl W).alloc _,aN W _⟩
abbrev zactsAll:Array MapEntry:= #[fnE 1 219 0,fnE 2 220 1,fnE 3 221 2,fnE 4 222 3]
theorem zacts_any(W:World):eg 158 #[] W fun e w'=>e= .returned (.map (some W.heap.size))/\Bl W w'/\w'.heap[W.heap.size]?=some (.map zactsAll 4):=by
 have hmm:= @run_makeMap prog;have h0:∀w:World,(Instr.mapUpdate 214 (.map (some w.heap.size)) (.int .i64 1) (.func (.func 219) #[] #[])).run prog (w.alloc (.map #[] 0))= .ok () (w.alloc (.map #[fnE 1 219 0] 1)):=fun w=>eQ underlying214 underlying42 w #[] 0 1 _ rfl;have h1:∀w:World,(Instr.mapUpdate 214 (.map (some w.heap.size)) (.int .i64 2) (.func (.func 220) #[] #[])).run prog (w.alloc (.map #[fnE 1 219 0] 1))= .ok () (w.alloc (.map #[fnE 1 219 0,fnE 2 220 1] 2)):=fun w=>eQ underlying214 underlying42 w #[fnE 1 219 0] 1 2 _ rfl;have h2:∀w:World,(Instr.mapUpdate 214 (.map (some w.heap.size)) (.int .i64 3) (.func (.func 221) #[] #[])).run prog (w.alloc (.map #[fnE 1 219 0,fnE 2 220 1] 2))= .ok () (w.alloc (.map #[fnE 1 219 0,fnE 2 220 1,fnE 3 221 2] 3)):=fun w=>eQ underlying214 underlying42 w #[fnE 1 219 0,fnE 2 220 1] 2 3 _ rfl;have h3:∀w:World,(Instr.mapUpdate 214 (.map (some w.heap.size)) (.int .i64 4) (.func (.func 222) #[] #[])).run prog (w.alloc (.map #[fnE 1 219 0,fnE 2 220 1,fnE 3 221 2] 3))= .ok () (w.alloc (.map zactsAll 4)):=fun w=>eQ underlying214 underlying42 w #[fnE 1 219 0,fnE 2 220 1,fnE 3 221 2] 3 4 _ rfl;go_enter func158,ntmps158;go_wp2;go_ret;exact⟨rfl,(Bl.refl W).alloc _,aN W _⟩
theorem run_lookup_ok{P:Program}{T kt et:TypeId}(hT:P.underlying T=some (.map kt et))(hK:P.underlying kt=some (.int .i64)){w:World}{r:Nat}{es:Array MapEntry}{clock:Nat}(hb:w.heap[r]?=some (.map es clock)){n:Int}{i:Nat}{v:Value}
  (h:Instr.findNow (.int .i64) (.int .i64 n) es.toList 0=some (some (i,v))):
  (Instr.lookup T (.map (some r)) (.int .i64 n) true).run P w= .ok (.tuple #[v,.bool true]) w:=by
 have h1:=MapKept.run_getObj_map (P:=P) hb;have h2:=MapKept.run_checkKey (P:=P) (w:=w) (k:= .int .i64 n) hK (by trivial) es.isEmpty 9999;have h3:=MapKept.run_findKey (P:=P) (w:=w) hK h;simp[Instr.lookup,Sem.run_bind,run_underlying hT,Result.andThen,h1,h2,h3]
theorem run_lookup_no{P:Program}{T kt et:TypeId}(hT:P.underlying T=some (.map kt et))(hK:P.underlying kt=some (.int .i64)){w:World}{r:Nat}{es:Array MapEntry}{clock:Nat}(hb:w.heap[r]?=some (.map es clock)){n:Int}{z:Value}
  (h:Instr.findNow (.int .i64) (.int .i64 n) es.toList 0=some none) (hz:(zeroValue et).run P w= .ok z w):
  (Instr.lookup T (.map (some r)) (.int .i64 n) true).run P w= .ok (.tuple #[z,.bool false]) w:=by
 have h1:=MapKept.run_getObj_map (P:=P) hb;have h2:=MapKept.run_checkKey (P:=P) (w:=w) (k:= .int .i64 n) hK (by trivial) es.isEmpty 9999;have h3:=MapKept.run_findKey (P:=P) (w:=w) hK h;simp[Instr.lookup,Sem.run_bind,run_underlying hT,Result.andThen,h1,h2,h3,hz]
theorem ztext_at{w:World}{r:Nat}(hb:w.heap[r]?=some (.map ztextsAll 4)):(Instr.lookup 76 (.map (some r)) (.int .i64 1) false).run prog w= .ok (.func (.func 57) #[] #[]) w/\(Instr.lookup 76 (.map (some r)) (.int .i64 2) false).run prog w= .ok (.func (.func 66) #[] #[]) w/\
  (Instr.lookup 76 (.map (some r)) (.int .i64 3) false).run prog w= .ok (.func (.func 69) #[] #[]) w/\(Instr.lookup 76 (.map (some r)) (.int .i64 4) false).run prog w= .ok (.func (.func 70) #[] #[]) w:=
 ⟨eP underlying76 underlying24 hb (i:=0) rfl,eP underlying76 underlying24 hb (i:=1) rfl,eP underlying76 underlying24 hb (i:=2) rfl,eP underlying76 underlying24 hb (i:=3) rfl⟩
def ztextFn(k:Int):FuncId:=if k=1 then 57 else if k=2 then 66 else if k=3 then 69 else 70
theorem ztext_look{w:World}{r:Nat}{k:Int}(hk:k=1\/k=2\/k=3\/k=4)(hb:w.heap[r]?=some (.map ztextsAll 4)):(Instr.lookup 76 (.map (some r)) (.int .i64 k) false).run prog w= .ok (.func (.func (ztextFn k)) #[] #[]) w:=by
 obtain⟨h1,h2,h3,h4⟩:=ztext_at hb;rcases hk with rfl|rfl|rfl|rfl
 ·exact h1
 ·exact h2
 ·exact h3
 ·exact h4
theorem enters_ztextFn(k:Int)(args:Array Value)(w:World):(callFunc (ztextFn k) args).run prog w= .ok (.enter (ztextFn k) args) w:=by
 unfold ztextFn;split
 ·simp[go_sem]
 split
 ·simp[go_sem]
 split<;>simp[go_sem]
structure WrT(w:Wr):Prop where
 kind:(w.kind=1/\InT w)\/(w.kind=2/\UpT w)\/(w.kind=3/\w.into.t≠[]/\e0m w.wher/\mayB w.wher=true)\/(w.kind=4/\MgT w)
 ret:w.ret=[]\/(w.ret≠[]/\d4l w.ret=true)
 items:∀i∈w.ret,e7f i
 lr:w.ret.length<=1000000
 text:(textW w).length<=99999990
theorem body_le{w:Wr}{n:Nat}(h:(textW w).length<=n):(bodyT w).length<=n:=by
 unfold textW at h;simp only[bD] at h;omega
section
variable {w:Wr} {p:Nat->Prop} {s:SlW}
theorem ztextFn_any(h:WrT w)(hQT:w.hasQ=true->QTx w.query)(W:World)(hp:PartsW p W w s)(hG:nD W):eg (ztextFn w.kind) #[.agg (cWr w s).toArray] W fun e w'=>e= .returned (S (bodyT w))/\Bl W w':=by
 have hl:=body_le h.text;rcases h.kind with⟨hk,hi⟩|⟨hk,hi⟩|⟨hk,hi,hx,hm⟩|⟨hk,hi⟩
 ·rw[show ztextFn w.kind=57 from by rw[hk];rfl];exact ztexts1_any hi hQT (body_in hk) hl W hp hG
 ·rw[show ztextFn w.kind=66 from by rw[hk];rfl];exact ztexts2_any hi (by unfold bodyT;rw[hk,if_neg ae,if_pos rfl]) (jH hl ae) W hp hG
 ·rw[show ztextFn w.kind=69 from by rw[hk];rfl];exact ztexts3_any hi hx hm (by unfold bodyT;rw[hk,if_neg ae,if_neg ae,if_pos rfl]) (jH hl ae) W hp hG
 ·rw[show ztextFn w.kind=70 from by rw[hk];rfl];exact ztexts4_any hi (by unfold bodyT;rw[hk,if_neg ae,if_neg ae,if_neg ae]) (jH hl ae) W hp hG
theorem bodyT_ne(w:Wr):bodyT w≠[]:=by
 unfold bodyT;split
 ·simp[wInsert]
 split
 ·simp[wUpdate]
 split
 ·simp[wDelete]
 ·simp[wMerge]
theorem textIt_ne{i:It}(h:d3r i=true):d5x i≠[]:=by
 obtain⟨st,t,x,al⟩:=i;unfold d5x;cases st
 ·exact namedT_ne (textE_ne (e6s h))
 ·dsimp only;rw[if_pos rfl];split<;>simp
theorem its_ne{l:List It}(h0:l≠[])(h:d4l l=true):d5q l≠[]:=by
 unfold d4l at h;simp only[aQ,jA] at h;exact join_ne cA fun x hx=>by
  obtain⟨i,hi,rfl⟩:=List.mem_map.1 hx;exact textIt_ne (h.2 i hi)
theorem ret_words(h0:w.ret≠[])(h:d4l w.ret=true):jR [32] ([bodyT w,wReturning,d5q w.ret].filter fullT)=textW w:=by
 rw[full_cons _ _ (bodyT_ne w),full_cons _ _ ae,full_cons _ _ (its_ne h0 h)];unfold textW retT;rw[if_neg h0];simp[jR]
theorem zText_of(h:WrT w)(hQT:w.hasQ=true->QTx w.query)(W:World)(hp:PartsW p W w s)(hG:nD W)(hck:∀v,Bl W v->eg 21 #[.agg (cWr w s).toArray] v fun e w'=>e= .returned (.int .i64 0)/\Bl v w'):
  eg 10 #[.agg (cWr w s).toArray] W fun e w'=>e= .returned (.tuple #[S (textW w),.int .i64 0])/\Bl W w':=by
 have HCK:=aB hck;have HFN:Hid (∀v,Bl W v->eg (ztextFn w.kind) #[.agg (cWr w s).toArray] v fun e w'=>e= .returned (S (bodyT w))/\Bl v w'):=fun v hb=>ztextFn_any h hQT v (hp.bl hb) (hG.bl hb);have hk:w.kind=1\/w.kind=2\/w.kind=3\/w.kind=4:=by
  rcases h.kind with⟨hk,-⟩|⟨hk,-⟩|⟨hk,-⟩|⟨hk,-⟩
  ·exact .inl hk
  ·exact .inr (.inl hk)
  ·exact .inr (.inr (.inl hk))
  ·exact .inr (.inr (.inr hk))
 have HLK:Hid (∀(v:World) (r:Nat),v.heap[r]?=some (.map ztextsAll 4)->(Instr.lookup 76 (.map (some r)) (.int .i64 w.kind) false).run prog v= .ok (.func (.func (ztextFn w.kind)) #[] #[]) v):=fun v r hb=>ztext_look hk hb;have hen:=enters_ztextFn w.kind;have hl:=h.text;rcases h.ret with h0|⟨h0,hr⟩
 ·have HIT:Hid (∀v,Bl W v->eg 23 #[s.ret] v fun e w'=>e= .returned (.tuple #[S [],.int .i64 2])/\Bl v w'):=fun v hb=>qItemsText_no h.lr h.items (by rw[h0];rfl) (hp.ret.bl hb) (hG.bl hb);have hT:textW w=bodyT w:=(by unfold textW retT;rw[if_pos h0,List.append_nil]);rw[hT];clear hck hQT hp hG hk hT hl h h0;go_enter func10,ntmps10;go_wp2_with (refine wpList_boxO rfl 46 (.tmp 0) rfl (cWr w s) rfl ?_)
  intro w0 hb0 hX0;have HB0:=aB hb0;have HX0:=aB hX0;clear hb0 hX0;go_wp2_with (refine wpList_load_row rfl 46 (.tmp 1) rfl W.heap.size rfl 46 _ (0,0) _ HX0.o underlying46 rfl wrInfoZ ?_)
  refine(HCK.o _ HB0.o).mono ?_;rintro e w1 ⟨rfl,hb1⟩;have HB1:=aB (HB0.o.call hb1);have HX1:=aB ((hb1.block _ (lt_of_heap HX0.o)).trans HX0.o);clear hb1 HX0 HB0;go_wp2_with fail;refine wp_region_noPanic (bM (fun B=>B.heap[W.heap.size]?=some (.cells (cWr w s).toArray 46 (0,0))) ((.take 1 (.take 2 (.take 4 (.one 0 (.one 3 (.one 5 (.take 6 .done)))))))) af af af (fun _ _ _ _ _ h=>h) (HX1.o) ?_);intro wd HWD hY;iterate 2 (refine aI rfl ab ay ?_;(try simp only[aK,aA,aD,aF]))
  refine aI rfl ab (fun w hSw=>eD rfl rfl hSw underlying46 rfl wrInfoZ) ?_;(try simp only[aK,aA,aD,aF])
  refine aL rfl (fun K hK=>?_);go_simp;(refine(ztexts_any _).mono ?_;rintro e w2 ⟨rfl,hb2,hM⟩;have hb:=hb2);go_wp2_with fail;refine hK.o _ _ (((hb.block _ (lt_of_heap hY)).trans hY)) ?_;clear hY hK K;intro hY;clear hb;have HM:=aB hM;have hlook:=HLK.o _ _ HM.o;refine aL rfl (fun K hK=>?_);go_simp;refine hK.o _ _ (hY) ?_;clear hY hK K;intro hY;refine aL rfl (fun K hK=>?_);go_simp;(refine(HFN.o _ ((HB1.o.call HWD.o).call hb2)).mono ?_;rintro e w3 ⟨rfl,hb3⟩;have hb:=hb3);go_wp2_with fail;refine hK.o _ _ (((hb.block _ (lt_of_heap hY)).trans hY)) ?_;clear hY hK K;intro hY;clear hb;refine aI rfl ab ay ?_;(try simp only[aK,aA,aD,aF])
  refine fO (bF ?_);have HB3:=aB (((HB1.o.call HWD.o).call hb2).call hb3);have HX3:=aB hY;have d52:=cell_of (i:=52) hY rfl;clear hY hM HM hb2 hb3 HWD HX1 HB1;go_wp2_with fail;refine(HIT.o _ HB3.o).mono ?_;rintro e w4 ⟨rfl,hb4⟩;have HB4:=aB (HB3.o.call hb4);clear hb4;go_wp2;go_ret2;exact⟨rfl,HB4.o⟩
 ·have hwd:=ret_words h0 hr;have HIT:Hid (∀v,Bl W v->eg 23 #[s.ret] v fun e w'=>e= .returned (.tuple #[S (d5q w.ret),.int .i64 0])/\Bl v w'):=fun v hb=>qItemsText_yes h.lr h.items hr (by
   unfold textW retT at hl;rw[if_neg h0] at hl;simp only[bD] at hl;omega) (hp.ret.bl hb) (hG.bl hb)
  have HW:Hid (∀v,eg 24 #[.slice (some ⟨v.heap.size,0,none⟩) 3 3] (v.alloc (.cells #[S (bodyT w),S wReturning,S (d5q w.ret)] 9)) fun e w'=>e= .returned (S (textW w))/\Bl v w'):=fun v=>by
   have h:=zwords_new (W:=v) [bodyT w,wReturning,d5q w.ret] _ 3 _ rfl rfl aa rfl ⟨bodyT w,by simp,bodyT_ne w⟩ (by rw[hwd];exact jH hl ae);rw[hwd] at h;exact h
  clear hck hQT hp hG hk hwd hl h h0 hr;go_enter func10,ntmps10;go_wp2_with (refine wpList_boxO rfl 46 (.tmp 0) rfl (cWr w s) rfl ?_)
  intro w0 hb0 hX0;have HB0:=aB hb0;have HX0:=aB hX0;clear hb0 hX0;go_wp2_with (refine wpList_load_row rfl 46 (.tmp 1) rfl W.heap.size rfl 46 _ (0,0) _ HX0.o underlying46 rfl wrInfoZ ?_)
  refine(HCK.o _ HB0.o).mono ?_;rintro e w1 ⟨rfl,hb1⟩;have HB1:=aB (HB0.o.call hb1);have HX1:=aB ((hb1.block _ (lt_of_heap HX0.o)).trans HX0.o);clear hb1 HX0 HB0;go_wp2_with fail;refine wp_region_noPanic (bM (fun B=>B.heap[W.heap.size]?=some (.cells (cWr w s).toArray 46 (0,0))) ((.take 1 (.take 2 (.take 4 (.one 0 (.one 3 (.one 5 (.take 6 .done)))))))) af af af (fun _ _ _ _ _ h=>h) (HX1.o) ?_);intro wd HWD hY;iterate 2 (refine aI rfl ab ay ?_;(try simp only[aK,aA,aD,aF]))
  refine aI rfl ab (fun w hSw=>eD rfl rfl hSw underlying46 rfl wrInfoZ) ?_;(try simp only[aK,aA,aD,aF])
  refine aL rfl (fun K hK=>?_);go_simp;(refine(ztexts_any _).mono ?_;rintro e w2 ⟨rfl,hb2,hM⟩;have hb:=hb2);go_wp2_with fail;refine hK.o _ _ (((hb.block _ (lt_of_heap hY)).trans hY)) ?_;clear hY hK K;intro hY;clear hb;have HM:=aB hM;have hlook:=HLK.o _ _ HM.o;refine aL rfl (fun K hK=>?_);go_simp;refine hK.o _ _ (hY) ?_;clear hY hK K;intro hY;refine aL rfl (fun K hK=>?_);go_simp;(refine(HFN.o _ ((HB1.o.call HWD.o).call hb2)).mono ?_;rintro e w3 ⟨rfl,hb3⟩;have hb:=hb3);go_wp2_with fail;refine hK.o _ _ (((hb.block _ (lt_of_heap hY)).trans hY)) ?_;clear hY hK K;intro hY;clear hb;refine aI rfl ab ay ?_;(try simp only[aK,aA,aD,aF])
  refine fO (bF ?_);have HB3:=aB (((HB1.o.call HWD.o).call hb2).call hb3);have HX3:=aB hY;have d52:=cell_of (i:=52) hY rfl;clear hY hM HM hb2 hb3 HWD HX1 HB1;go_wp2_with fail;refine(HIT.o _ HB3.o).mono ?_;rintro e w4 ⟨rfl,hb4⟩;have HB4:=aB (HB3.o.call hb4);clear hb4;go_wp2_with fail;refine(HW.o _).mono ?_;rintro e w5 ⟨rfl,hb5⟩;go_wp2;go_ret2;exact⟨rfl,HB4.o.call hb5⟩
end
end
section
theorem dec_int{a b:Nat}:decide ((a:Int)<=(b:Int))=decide (a<=b):=by
 by_cases h:a<=b
 ·rw[decide_eq_true h,decide_eq_true aE]
 ·rw[decide_eq_false h,decide_eq_false aE]
theorem enters_zright(args:Array Value)(w:World):(callFunc 108 args).run prog w= .ok (.enter 108 args) w:=by simp[go_sem]
theorem enters_znameB(args:Array Value)(w:World):(callFunc 104 args).run prog w= .ok (.enter 104 args) w:=by simp[go_sem]
theorem enters_zrowB(args:Array Value)(w:World):(callFunc 98 args).run prog w= .ok (.enter 98 args) w:=by simp[go_sem]
theorem enters_zsetsB1(args:Array Value)(w:World):(callFunc 152 args).run prog w= .ok (.enter 152 args) w:=by simp[go_sem]
theorem enters_zwhenB(args:Array Value)(w:World):(callFunc 110 args).run prog w= .ok (.enter 110 args) w:=by simp[go_sem]
structure StSz(s:St):Prop where
 n:d4d s.n
 x:e0m s.x
structure WnSz(x:Wn):Prop where
 cond:e0m x.cond
 sets:∀s∈x.sets,StSz s
 cols:∀s∈x.cols,d4d s
 vals:∀y∈x.vals,e0m y
 ls:x.sets.length<=1000000
 lc:x.cols.length<=1000000
 lv:x.vals.length<=1000000
theorem znames_each{p:Nat->Prop}{l:List (List UInt8)}(hok:∀x∈l,d4d x)(hlen:l.length<=1000000)(least:Nat)(W:World)(v:Value)(hr:RowsG gStr p W v l)(hG:nD W):
  eg 103 #[v,.int .i64 (least:Int),.int .i64 32,.func (.func 104) #[] #[]] W fun e w'=>e= .returned (.bool (namesB l least))/\Bl W w':=by
 have h:=zeachStr_any (pB:=mO) enters_znameB hlen hr (least:Int) 32 fun y hy W' s hb hl=>by
  obtain rfl:s=S y:=(by simpa using(show[s]=[S y] from hl));exact znameB_any y (hok y hy) W' (hG.bl hb)
 rw[show((32:Int))=((32:Nat):Int) from rfl,dec_int,dec_int] at h;exact h
theorem zrowB_any{p:Nat->Prop}{l:List Ex}(hok:∀x∈l,e0m x)(hlen:l.length<=1000000)(W:World)(v:Value)(hr:bG p W v l)(hG:nD W):
  eg 98 #[v] W fun e w'=>e= .returned (.bool (rowB l))/\Bl W w':=by
 have HE:Hid (eg 142 #[v,.int .i64 1,.int .i64 32,.func (.func 108) #[] #[]] W fun e w'=>e= .returned (.bool (rowB l))/\Bl W w'):=by
  have h:=zeachEx_any (pB:=eH) enters_zright hlen (rowsg_ex hr) 1 32 fun y hy W' cs hb hl=>by
   obtain⟨s,rfl,hs⟩:=hl;exact zright_any (hok y hy) W' _ ⟨s,rfl,hs.reads⟩ (hG.bl hb)
  rw[show((32:Int))=((32:Nat):Int) from rfl,show((1:Int))=((1:Nat):Int) from rfl,dec_int,dec_int] at h;exact h
 obtain⟨a,cap,rfl⟩:=hr.shape;generalize rowB l=r at *;clear hok hlen hr hG;go_enter func98,ntmps98;go_wp2_with fail;refine HE.o.mono ?_;rintro e w1 ⟨rfl,hb⟩;go_wp2;go_ret;exact⟨rfl,hb⟩
def setB(s:St):Bool:=mO s.n&&eH s.x
theorem zsetsB1_any{s:St}(h:StSz s){sv:Value}(W:World)(hr:gU W sv s.x.args)(hG:nD W):eg 152 #[.agg (S s.n::qD s.x sv).toArray] W fun e w'=>e= .returned (.bool (setB s))/\Bl W w':=by
 have H1:Hid (∀w,Bl W w->eg 104 #[S s.n] w fun e w'=>e= .returned (.bool (mO s.n))/\Bl w w'):=fun w hb=>znameB_any s.n h.n w (hG.bl hb);have H2:Hid (∀w,Bl W w->eg 108 #[.agg (qD s.x sv).toArray] w fun e w'=>e= .returned (.bool (eH s.x))/\Bl w w'):=fun w hb=>zright_any h.x w _ ⟨_,rfl,hr.bl hb⟩ (hG.bl hb);show eg 152 _ W fun e w'=>e= .returned (.bool (mO s.n&&eH s.x))/\Bl W w';generalize mO s.n=r1 at *;generalize eH s.x=r2 at *;clear h hr hG;go_enter func152,ntmps152;go_wp2_with (refine wpList_boxO rfl 63 (.tmp 0) rfl (S s.n::qD s.x sv) rfl ?_)
 intro w0 hb0 hX0;have HB0:=aB hb0;have HX0:=aB hX0;have c0:=cell_of (i:=0) hX0 rfl;clear hb0 hX0;go_wp2_with fail;refine(H1.o _ HB0.o).mono ?_;rintro e w1 ⟨rfl,hb1⟩;have HB1:=aB (HB0.o.call hb1);have HX1:=aB ((hb1.block _ (lt_of_heap HX0.o)).trans HX0.o);clear hb1 HX0 HB0 c0;cases r1
 ·go_wp2;go_ret;exact⟨rfl,HB1.o⟩
 ·skip
  go_wp2_with (refine wpList_load_midG ar 38 (.tmp 7) rfl W.heap.size 1 rfl (qD s.x sv) _ (range_of HX1.o rfl) underlying38 rfl d4b ?_)
  refine(H2.o _ HB1.o).mono ?_;rintro e w2 ⟨rfl,hb2⟩;go_wp2;go_ret;exact⟨rfl,HB1.o.call hb2⟩
theorem zsetsB_any{p:Nat->Prop}{l:List St}(hok:∀x∈l,StSz x)(hlen:l.length<=1000000)(W:World)(v:Value)(hr:RowsG gSt p W v l)(hG:nD W):
  eg 101 #[v] W fun e w'=>e= .returned (.bool (setsB l))/\Bl W w':=by
 have HE:Hid (eg 151 #[v,.int .i64 1,.int .i64 32,.func (.func 152) #[] #[]] W fun e w'=>e= .returned (.bool (setsB l))/\Bl W w'):=by
  have h:=zeachSet_any (pB:=setB) enters_zsetsB1 hlen hr 1 32 fun y hy W' cs hb hl=>by
   obtain⟨s,rfl,hs⟩:=hl;exact zsetsB1_any (hok y hy) W' hs.reads (hG.bl hb)
  rw[show((32:Int))=((32:Nat):Int) from rfl,show((1:Int))=((1:Nat):Int) from rfl,dec_int,dec_int] at h;exact h
 obtain⟨a,cap,rfl,-⟩:=hr.shape;generalize setsB l=r at *;clear hok hlen hr hG;go_enter func101,ntmps101;go_wp2_with fail;refine HE.o.mono ?_;rintro e w1 ⟨rfl,hb⟩;go_wp2;go_ret;exact⟨rfl,hb⟩
def actB(k:Int)(x:Wn):Bool:=
 if k=1 then x.sets.isEmpty&&x.cols.isEmpty&&x.vals.isEmpty
 else if k=2 then x.matched&&setsB x.sets&&x.cols.isEmpty&&x.vals.isEmpty
 else if k=3 then x.matched&&x.sets.isEmpty&&x.cols.isEmpty&&x.vals.isEmpty
 else if k=4 then !x.matched&&x.sets.isEmpty&&namesB x.cols 0&&rowB x.vals else false
theorem right_act(x:Wn):rightWn x=(mayB x.cond&&actB x.act x):=rfl
theorem sum3{α β γ:Type}(a:List α)(b:List β)(c:List γ):((((a.length:Int)+(b.length:Int)+(c.length:Int)==0):Bool))=(a.isEmpty&&b.isEmpty&&c.isEmpty):=by
 cases a with
 |nil=>cases b with
  |nil=>cases c with
   |nil=>rfl
   |cons=>simp;omega
  |cons=>simp;omega
 |cons=>simp;omega
theorem sum2{β γ:Type}(b:List β)(c:List γ):((((b.length:Int)+(c.length:Int)==0):Bool))=(b.isEmpty&&c.isEmpty):=by
 cases b with
 |nil=>cases c with
  |nil=>rfl
  |cons=>simp;omega
 |cons=>simp;omega
theorem len0{β:Type}(b:List β):((((b.length:Int)==0):Bool))=b.isEmpty:=by
 cases b with
 |nil=>rfl
 |cons=>simp;omega
section
variable {p:Nat->Prop} {W:World} {m:Bool} {c:Ex} {act:Int} {sets:List St} {cols:List (List UInt8)} {vals:List Ex} {s:Value} {ta ca va:Option Addr} {tc cc vc:Nat}
theorem zacts1_any(ls:sets.length<=1000000)(lc:cols.length<=1000000)(lv:vals.length<=1000000):
  eg 219 #[.agg (cells13 ⟨m,c,act,sets,cols,vals⟩ s (.slice ta sets.length tc) (.slice ca cols.length cc) (.slice va vals.length vc)).toArray] W fun e w'=>e= .returned (.bool (sets.isEmpty&&cols.isEmpty&&vals.isEmpty))/\Bl W w':=by
 rw[<-sum3];go_enter func219,ntmps219;go_wp2_with (refine wpList_boxO rfl 87 (.tmp 0) rfl (cells13 ⟨m,c,act,sets,cols,vals⟩ s (.slice ta sets.length tc) (.slice ca cols.length cc) (.slice va vals.length vc)) rfl ?_)
 intro w0 hb0 hX0;have HB0:=aB hb0;have HX0:=aB hX0;have c0:=cell_of (i:=0) hX0 rfl;have c10:=cell_of (i:=10) hX0 rfl;have c11:=cell_of (i:=11) hX0 rfl;have c12:=cell_of (i:=12) hX0 rfl;clear hb0 hX0;go_wp2;go_ret;exact⟨rfl,HB0.o⟩
theorem zacts3_any(ls:sets.length<=1000000)(lc:cols.length<=1000000)(lv:vals.length<=1000000):
  eg 221 #[.agg (cells13 ⟨m,c,act,sets,cols,vals⟩ s (.slice ta sets.length tc) (.slice ca cols.length cc) (.slice va vals.length vc)).toArray] W fun e w'=>e= .returned (.bool (m&&(sets.isEmpty&&cols.isEmpty&&vals.isEmpty)))/\Bl W w':=by
 rw[<-sum3];go_enter func221,ntmps221;go_wp2_with (refine wpList_boxO rfl 87 (.tmp 0) rfl (cells13 ⟨m,c,act,sets,cols,vals⟩ s (.slice ta sets.length tc) (.slice ca cols.length cc) (.slice va vals.length vc)) rfl ?_)
 intro w0 hb0 hX0;have HB0:=aB hb0;have HX0:=aB hX0;have c0:=cell_of (i:=0) hX0 rfl;have c10:=cell_of (i:=10) hX0 rfl;have c11:=cell_of (i:=11) hX0 rfl;have c12:=cell_of (i:=12) hX0 rfl;clear hb0 hX0;cases m
 all_goals
  go_wp2;go_ret;exact⟨rfl,HB0.o⟩
theorem zacts2_any(ls:sets.length<=1000000)(lc:cols.length<=1000000)(lv:vals.length<=1000000)(hst:∀x∈sets,StSz x)(hrs:RowsG gSt p W (.slice ta sets.length tc) sets)(hG:nD W):
  eg 220 #[.agg (cells13 ⟨m,c,act,sets,cols,vals⟩ s (.slice ta sets.length tc) (.slice ca cols.length cc) (.slice va vals.length vc)).toArray] W fun e w'=>e= .returned (.bool (m&&setsB sets&&(cols.isEmpty&&vals.isEmpty)))/\Bl W w':=by
 rw[<-sum2];have HS:Hid (∀w,Bl W w->eg 101 #[.slice ta sets.length tc] w fun e w'=>e= .returned (.bool (setsB sets))/\Bl w w'):=fun w hb=>zsetsB_any hst ls w _ (hrs.bl hb) (hG.bl hb);generalize setsB sets=r at *;clear hst hrs hG;go_enter func220,ntmps220;go_wp2_with (refine wpList_boxO rfl 87 (.tmp 0) rfl (cells13 ⟨m,c,act,sets,cols,vals⟩ s (.slice ta sets.length tc) (.slice ca cols.length cc) (.slice va vals.length vc)) rfl ?_)
 intro w0 hb0 hX0;have HB0:=aB hb0;have HX0:=aB hX0;have c0:=cell_of (i:=0) hX0 rfl;have c10:=cell_of (i:=10) hX0 rfl;have c11:=cell_of (i:=11) hX0 rfl;have c12:=cell_of (i:=12) hX0 rfl;clear hb0 hX0;cases m
 ·go_wp2;go_ret;exact⟨rfl,HB0.o⟩
 ·go_wp2_with fail;refine(HS.o _ HB0.o).mono ?_;rintro e w1 ⟨rfl,hb1⟩;have HB1:=aB (HB0.o.call hb1);have HX1:=aB ((hb1.block _ (lt_of_heap HX0.o)).trans HX0.o);have d11:=cell_of (i:=11) HX1.o rfl;have d12:=cell_of (i:=12) HX1.o rfl;clear hb1 HX0 HB0 c0 c10 c11 c12;cases r
  all_goals
   go_wp2;go_ret;exact⟨rfl,HB1.o⟩
theorem zacts4_any(_ls:sets.length<=1000000)(lc:cols.length<=1000000)(lv:vals.length<=1000000)(hco:∀x∈cols,d4d x)(hva:∀x∈vals,e0m x)(hrc:RowsG gStr p W (.slice ca cols.length cc) cols)(hrv:bG p W (.slice va vals.length vc) vals)(hG:nD W):
  eg 222 #[.agg (cells13 ⟨m,c,act,sets,cols,vals⟩ s (.slice ta sets.length tc) (.slice ca cols.length cc) (.slice va vals.length vc)).toArray] W fun e w'=>e= .returned (.bool (!m&&sets.isEmpty&&namesB cols 0&&rowB vals))/\Bl W w':=by
 have HN:Hid (∀w,Bl W w->eg 103 #[.slice ca cols.length cc,.int .i64 0,.int .i64 32,.func (.func 104) #[] #[]] w fun e w'=>e= .returned (.bool (namesB cols 0))/\Bl w w'):=fun w hb=>znames_each hco lc 0 w _ (hrc.bl hb) (hG.bl hb);have HV:Hid (∀w,Bl W w->eg 98 #[.slice va vals.length vc] w fun e w'=>e= .returned (.bool (rowB vals))/\Bl w w'):=fun w hb=>zrowB_any hva lv w _ (hrv.keep (fun _ h=>h) fun b _ hl=>hb.block b hl) (hG.bl hb);have HE:=aB (len0 sets);generalize namesB cols 0=r1 at *;generalize rowB vals=r2 at *;obtain⟨R,HR⟩:∃R,Hid (R=(!m&&sets.isEmpty&&r1&&r2)):=⟨_,rfl⟩
 rw[<-HR.o];clear hco hva hrc hrv hG;go_enter func222,ntmps222;go_wp2_with (refine wpList_boxO rfl 87 (.tmp 0) rfl (cells13 ⟨m,c,act,sets,cols,vals⟩ s (.slice ta sets.length tc) (.slice ca cols.length cc) (.slice va vals.length vc)) rfl ?_)
 intro w0 hb0 hX0;have HB0:=aB hb0;have HX0:=aB hX0;have c0:=cell_of (i:=0) hX0 rfl;have c10:=cell_of (i:=10) hX0 rfl;have c11:=cell_of (i:=11) hX0 rfl;have c12:=cell_of (i:=12) hX0 rfl;clear hb0 hX0;cases m
 case true=>
  have HF:=aB (show R=false from by rw[HR.o];simp);go_wp2;go_ret;exact⟨by rw[HF.o]<;>rfl,HB0.o⟩
 by_cases hz1:((sets.length:Int)=0)
 case neg=>
  have hz:(((sets.length:Int)==0):Bool)=false:=(by simpa using hz1);have HF:=aB (show R=false from by rw[HR.o,<-HE.o,hz];simp);go_wp2;go_ret;exact⟨by rw[HF.o]<;>rfl,HB0.o⟩
 have hz:(((sets.length:Int)==0):Bool)=true:=(by simpa using hz1);have HF0:=aB (show R=(r1&&r2) from by rw[HR.o,<-HE.o,hz];simp);go_wp2_with fail;refine(HN.o _ HB0.o).mono ?_;rintro e w1 ⟨rfl,hb1⟩;have HB1:=aB (HB0.o.call hb1);have HX1:=aB ((hb1.block _ (lt_of_heap HX0.o)).trans HX0.o);have d12:=cell_of (i:=12) HX1.o rfl;clear hb1 HX0 HB0 c0 c10 c11 c12;cases r1
 ·go_wp2;go_ret;exact⟨by rw[HF0.o]<;>rfl,HB1.o⟩
 ·go_wp2_with fail;refine(HV.o _ HB1.o).mono ?_;rintro e w2 ⟨rfl,hb2⟩;go_wp2;go_ret;exact⟨by rw[HF0.o]<;>rfl,HB1.o.call hb2⟩
end
end
end Go.Proofs.YtohlomdapelgeaaGreatDoor
