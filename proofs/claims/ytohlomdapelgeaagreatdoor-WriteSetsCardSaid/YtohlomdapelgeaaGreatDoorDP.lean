/- Texts TK. -/
import Derived.Test.YtohlomdapelgeaaGreatDoorDO
import Derived.Test.YtohlomdapelgeaaGreatDoorDN
namespace Go.Proofs.YtohlomdapelgeaaGreatDoor
open _root_.Go.Proofs.Tryz
open Go.RowKit
open _root_.Go.Act renaming put->aK
open _root_.Bool renaming true_and->rC
open _root_.Go.Lib renaming hid->aB
open _root_.List renaming isEmpty_iff->iZ,length_cons->aX,setIfInBounds_toArray->aA,set_cons_succ->aF,set_cons_zero->aD
open _root_.Nat renaming zero_le->dL
open NoPanic renaming normal->bF
set_option maxRecDepth 100000
set_option maxHeartbeats 8000000
section
def zkindFn(k:Int):FuncId:=if k=1 then 96 else if k=2 then 105 else if k=3 then 106 else 107
theorem enters_zkindFn(k:Int)(args:Array Value)(w:World):(callFunc (zkindFn k) args).run prog w= .ok (.enter (zkindFn k) args) w:=by
 unfold zkindFn;split
 ·simp[go_sem]
 split
 ·simp[go_sem]
 split<;>simp[go_sem]
theorem zkind_look{w:World}{r:Nat}{k:Int}(hk:k=1\/k=2\/k=3\/k=4)(hb:w.heap[r]?=some (.map zkindsAll 4)):(Instr.lookup 125 (.map (some r)) (.int .i64 k) true).run prog w= .ok (.tuple #[.func (.func (zkindFn k)) #[] #[],.bool true]) w:=by
 rcases hk with rfl|rfl|rfl|rfl
 ·exact run_lookup_ok underlying125 underlying24 hb (i:=0) rfl
 ·exact run_lookup_ok underlying125 underlying24 hb (i:=1) rfl
 ·exact run_lookup_ok underlying125 underlying24 hb (i:=2) rfl
 ·exact run_lookup_ok underlying125 underlying24 hb (i:=3) rfl
theorem zkind_none{w:World}{r:Nat}{k:Int}(h1:k≠1)(h2:k≠2)(h3:k≠3)(h4:k≠4)(hb:w.heap[r]?=some (.map zkindsAll 4)):(Instr.lookup 125 (.map (some r)) (.int .i64 k) true).run prog w= .ok (.tuple #[.nilFunc,.bool false]) w:=
 run_lookup_no underlying125 underlying24 hb (find_no h1 h2 h3 h4) (zero_isWrite w)
theorem quOK_zero:e1a d3z:=⟨fun i h=>aq,⟨by decide,by decide⟩,fun i h=>aq,e0m.zero,fun _ h=>aq,e0m.zero,fun _ h=>aq,by decide,by decide,by decide,by decide,fun h=>absurd h ae,by decide⟩
theorem bare_sz{w:Wr}(h:WrSz w):WrSz (bareW w):=by
 obtain⟨h1,h2,h3,h4,h5,h6,h7,h8,h9,h10,h11,h12,h13,l1,l2,l3,l4,l5,l6⟩:=h;have z0:e7e ⟨[],[]⟩:=⟨by decide,by decide⟩
 unfold bareW;split
 ·exact⟨h1,z0,h3,h4,h5,h6,h7,h8,h9,e0m.zero,fun _ h=>aq,h12,h13,l1,l2,l3,l4,dL _,l6⟩
 split
 ·exact⟨h1,z0,fun _ h=>aq,fun _ h=>aq,fun _ h=>aq,quOK_zero,e1l ae,h8,h9,e0m.zero,fun _ h=>aq,h12,h13,dL _,dL _,dL _,l4,dL _,l6⟩
 split
 ·exact⟨h1,z0,fun _ h=>aq,fun _ h=>aq,fun _ h=>aq,quOK_zero,e1l ae,fun _ h=>aq,h9,e0m.zero,fun _ h=>aq,h12,h13,dL _,dL _,dL _,dL _,dL _,l6⟩
 split
 ·exact⟨h1,h2,fun _ h=>aq,fun _ h=>aq,fun _ h=>aq,quOK_zero,e1l ae,fun _ h=>aq,e0m.zero,h10,h11,h12,h13,dL _,dL _,dL _,dL _,l5,l6⟩
 ·exact⟨h1,z0,fun _ h=>aq,fun _ h=>aq,fun _ h=>aq,quOK_zero,e1l ae,fun _ h=>aq,e0m.zero,e0m.zero,fun _ h=>aq,h12,h13,dL _,dL _,dL _,dL _,dL _,l6⟩
section
variable {w:Wr} {p:Nat->Prop} {s:SlW}
theorem zkindFn_any(h:WrSz w)(hQC:w.hasQ=true->QCk w.query)(hk:w.kind=1\/w.kind=2\/w.kind=3\/w.kind=4)(W:World)(hp:PartsW p W w s)(hG:nD W):eg (zkindFn w.kind) #[.agg (cWr w s).toArray] W fun e w'=>e= .returned (.bool (kindB w.kind w))/\Bl W w':=by
 rcases hk with hk|hk|hk|hk<;>rw[hk]
 ·exact zkinds1_any h hQC W hp hG
 ·exact zkinds2_any h W hp hG
 ·exact zkinds3_any h W hp hG
 ·exact zkinds4_any h W hp hG
theorem zCheck_any(h:WrSz w)(hQC:w.hasQ=true->QCk w.query)(W:World)(hp:PartsW p W w s)(hG:nD W):eg 21 #[.agg (cWr w s).toArray] W fun e w'=>e= .returned (.int .i64 (if rightW w then 0 else 2))/\Bl W w':=by
 rw[<-right_chk];by_cases hk:w.kind=1\/w.kind=2\/w.kind=3\/w.kind=4
 case neg=>
  have n1:w.kind≠1:=fun e=>hk (.inl e);have n2:w.kind≠2:=fun e=>hk (.inr (.inl e));have n3:w.kind≠3:=fun e=>hk (.inr (.inr (.inl e)));have n4:w.kind≠4:=fun e=>hk (.inr (.inr (.inr e)));have hc:chkW w=false:=by
   unfold chkW;rw[decide_eq_false aE];rfl
  rw[hc];have HLK:Hid (∀(v:World) (r:Nat),v.heap[r]?=some (.map zkindsAll 4)->(Instr.lookup 125 (.map (some r)) (.int .i64 w.kind) true).run prog v= .ok (.tuple #[.nilFunc,.bool false]) v):=fun v r hb=>zkind_none n1 n2 n3 n4 hb;clear h hQC hp hG hk n1 n2 n3 n4 hc;go_enter func21,ntmps21;go_wp2_with (refine wpList_boxO rfl 46 (.tmp 0) rfl (cWr w s) rfl ?_)
  intro w0 hb0 hX0;have HB0:=aB hb0;have HX0:=aB hX0;clear hb0 hX0;go_wp2_with fail;refine wp_region_noPanic (bM (fun B=>B.heap[W.heap.size]?=some (.cells (cWr w s).toArray 46 (0,0))) ((.take 1 (.take 2 (.one 0 (.one 3 (.take 4 (.take 5 (.take 6 (.take 7 (.take 8 .done)))))))))) af af af (fun _ _ _ _ _ h=>h) (HX0.o) ?_);intro wd HWD hY;iterate 2 (refine aI rfl ab ay ?_;(try simp only[aK,aA,aD,aF]))
  refine aL rfl (fun K hK=>?_);go_simp;(refine(zkinds_any _).mono ?_;rintro e w1 ⟨rfl,hb1,hM⟩;have hb:=hb1);go_wp2_with fail;refine hK.o _ _ (((hb.block _ (lt_of_heap hY)).trans hY)) ?_;clear hY hK K;intro hY;clear hb;have HM:=aB hM;have hlook:=HLK.o _ _ HM.o;refine aL rfl (fun K hK=>?_);go_simp;refine hK.o _ _ (hY) ?_;clear hY hK K;intro hY;iterate 5 (refine aI rfl ab ay ?_;(try simp only[aK,aA,aD,aF]))
  refine fO (bF ?_);have HB1:=aB ((HB0.o.call HWD.o).call hb1);have HX1:=aB hY;clear hY hM HM hb1 HWD HX0 HB0;go_wp2_with fail;refine wp_region_noPanic (bM (fun B=>B.heap[W.heap.size]?=some (.cells (cWr w s).toArray 46 (0,0))) ((.take 0 (.take 1 (.take 2 (.take 3 (.take 4 (.take 5 (.take 6 (.take 7 (.take 8 (.take 9 (.take 10 (.take 11 (.take 12 (.take 13 (.take 14 (.take 15 (.take 16 (.take 17 (.take 18 (.take 19 (.take 20 .done)))))))))))))))))))))) af af af (fun _ _ _ _ _ h=>h) (HX1.o) ?_);intro wd HWD hY;iterate 3 (refine aI rfl ab au ?_;(try simp only[aK,aA,aD,aF]))
  refine dK rfl ab ?_;(try simp only[aK,aA,aD,aF])
  refine dK rfl ab ?_;(try simp only[aK,aA,aD,aF])
  refine dK rfl ab ?_;(try simp only[aK,aA,aD,aF])
  refine dK rfl ab ?_;(try simp only[aK,aA,aD,aF])
  iterate 2 (refine aI rfl ab au ?_;(try simp only[aK,aA,aD,aF]))
  refine dK rfl ab ?_;(try simp only[aK,aA,aD,aF])
  refine dK rfl ab ?_;(try simp only[aK,aA,aD,aF])
  refine dK rfl ab ?_;(try simp only[aK,aA,aD,aF])
  refine dK rfl ab ?_;(try simp only[aK,aA,aD,aF])
  iterate 2 (refine aI rfl ab au ?_;(try simp only[aK,aA,aD,aF]))
  refine dK rfl ab ?_;(try simp only[aK,aA,aD,aF])
  refine dK rfl ab ?_;(try simp only[aK,aA,aD,aF])
  refine dK rfl ab ?_;(try simp only[aK,aA,aD,aF])
  refine dK rfl ab ?_;(try simp only[aK,aA,aD,aF])
  refine dK rfl ab ?_;(try simp only[aK,aA,aD,aF])
  refine aI rfl ab au ?_;(try simp only[aK,aA,aD,aF])
  refine fO (bF ?_);go_wp2;go_ret;exact⟨rfl,HB1.o.call HWD.o⟩
 have HF:Hid (∀v,Bl W v->eg (zkindFn w.kind) #[.agg (cWr w s).toArray] v fun e w'=>e= .returned (.bool (kindB w.kind w))/\Bl v w'):=fun v hb=>zkindFn_any h hQC hk v (hp.bl hb) (hG.bl hb);have HSR:Hid (∀v,Bl W v->eg 55 #[.agg #[S w.into.t,S w.into.al]] v fun e w'=>e= .returned (.bool (d4c w.into))/\Bl v w'):=fun v hb=>zsrc_any h.into v (hG.bl hb);have HBA:Hid (∀v,Bl W v->eg 56 #[.agg (cWr w s).toArray] v (BareP p v w)):=fun v hb=>zbare_any v (hp.bl hb);have HSM:Hid (∀v s',Bl W v->PartsW p v (bareW w) s'->eg 13 #[.agg (cWr (bareW w) s').toArray,.agg (cWr w s).toArray] v fun e w'=>e= .returned (.bool (sameW (bareW w) w))/\Bl v w'):=fun v s' hb hs=>zSame_any (bare_sz h) v hs (hp.bl hb);have HLK:Hid (∀(v:World) (r:Nat),v.heap[r]?=some (.map zkindsAll 4)->(Instr.lookup 125 (.map (some r)) (.int .i64 w.kind) true).run prog v= .ok (.tuple #[.func (.func (zkindFn w.kind)) #[] #[],.bool true]) v):=fun v r hb=>zkind_look hk hb;have hen:=enters_zkindFn w.kind;have hdk:decide (1<=w.kind/\w.kind<=4)=true:=decide_eq_true aE;have HCH:Hid (chkW w=(kindB w.kind w&&(d4c w.into&&(sameW (bareW w) w&&(w.ret.isEmpty||d4l w.ret))))):=by
  show _=_;unfold chkW;rw[hdk,rC]
 have HIT:Hid (∀v,Bl W v->eg 23 #[s.ret] v fun e w'=>(∃t,e= .returned (.tuple #[S t,.int .i64 (if d4l w.ret then 0 else 2)]))/\Bl v w'):=fun v hb=>by
  cases hr:d4l w.ret
  ·exact(qItemsText_no h.lt h.ret hr (hp.ret.bl hb) (hG.bl hb)).mono fun e w' ⟨h1,h2⟩=>⟨⟨_,h1⟩,h2⟩
  ·exact(qItemsText_yes h.lt h.ret hr (h.retT hr) (hp.ret.bl hb) (hG.bl hb)).mono fun e w' ⟨h1,h2⟩=>⟨⟨_,h1⟩,h2⟩
 obtain⟨ra,rc,er,-⟩:=hp.ret.shape;rw[er] at HIT;have HLT:=aB h.lt;rw[HCH.o];generalize d4c w.into=r2 at *;generalize sameW (bareW w) w=r3 at *;generalize kindB w.kind w=r1 at *;have HE1:Hid (w.ret.isEmpty=true->(w.ret.length:Int)=0):=fun e=>(by rw[iZ.1 e];rfl);have HE2:Hid (w.ret.isEmpty=false->(0:Int)<(w.ret.length:Int)):=fun e=>by
  cases hr:w.ret with
  |nil=>rw[hr] at e;cases e
  |cons=>simp only[aX];omega
 have HE3:Hid (w.ret.isEmpty=true->d4l w.ret=false):=fun e=>(by rw[iZ.1 e];rfl);generalize w.ret.isEmpty=r4 at *;generalize d4l w.ret=r5 at *;clear h hQC hp hG hk hdk HCH;cases r1
 ·skip
  go_enter func21,ntmps21;go_wp2_with (refine wpList_boxO rfl 46 (.tmp 0) rfl (cWr w s) rfl ?_)
  intro w0 hb0 hX0;have HB0:=aB hb0;have HX0:=aB hX0;clear hb0 hX0;go_wp2_with fail;refine wp_region_noPanic (bM (fun B=>B.heap[W.heap.size]?=some (.cells (cWr w s).toArray 46 (0,0))) ((.take 1 (.take 2 (.one 0 (.one 3 (.take 4 (.take 5 (.take 6 (.take 7 (.take 8 .done)))))))))) af af af (fun _ _ _ _ _ h=>h) (HX0.o) ?_);intro wd HWD hY;iterate 2 (refine aI rfl ab ay ?_;(try simp only[aK,aA,aD,aF]))
  refine aL rfl (fun K hK=>?_);go_simp;(refine(zkinds_any _).mono ?_;rintro e w1 ⟨rfl,hb1,hM⟩;have hb:=hb1);go_wp2_with fail;refine hK.o _ _ (((hb.block _ (lt_of_heap hY)).trans hY)) ?_;clear hY hK K;intro hY;clear hb;have HM:=aB hM;have hlook:=HLK.o _ _ HM.o;refine aL rfl (fun K hK=>?_);go_simp;refine hK.o _ _ (hY) ?_;clear hY hK K;intro hY;iterate 5 (refine aI rfl ab ay ?_;(try simp only[aK,aA,aD,aF]))
  refine fO (bF ?_);have HB1:=aB ((HB0.o.call HWD.o).call hb1);have HX1:=aB hY;clear hY hM HM hb1 HWD HX0 HB0;go_wp2_with fail;refine wp_region_noPanic (bM (fun B=>B.heap[W.heap.size]?=some (.cells (cWr w s).toArray 46 (0,0))) ((.take 0 (.take 1 (.take 2 (.take 3 (.take 4 (.one 5 (.take 6 (.take 7 (.take 8 (.take 9 (.take 10 (.take 11 (.take 12 (.take 13 (.take 14 (.take 15 (.take 16 (.take 17 (.take 18 (.take 19 (.take 20 .done)))))))))))))))))))))) af af af (fun _ _ _ _ _ h=>h) (HX1.o) ?_);intro wd HWD hY;iterate 4 (refine aI rfl ab au ?_;(try simp only[aK,aA,aD,aF]))
  refine aI rfl ab (fun w hSw=>eD rfl rfl hSw underlying46 rfl wrInfoZ) ?_;(try simp only[aK,aA,aD,aF])
  refine aL rfl (fun K hK=>?_);go_simp;(refine(HF.o _ (HB1.o.call HWD.o)).mono ?_;rintro e w2 ⟨rfl,hb2⟩;have hb:=hb2);go_wp2_with fail;refine hK.o _ _ (((hb.block _ (lt_of_heap hY)).trans hY)) ?_;clear hY hK K;intro hY;clear hb;iterate 3 (refine aI rfl ab au ?_;(try simp only[aK,aA,aD,aF]))
  refine dK rfl ab ?_;(try simp only[aK,aA,aD,aF])
  refine dK rfl ab ?_;(try simp only[aK,aA,aD,aF])
  refine dK rfl ab ?_;(try simp only[aK,aA,aD,aF])
  refine dK rfl ab ?_;(try simp only[aK,aA,aD,aF])
  iterate 2 (refine aI rfl ab au ?_;(try simp only[aK,aA,aD,aF]))
  refine dK rfl ab ?_;(try simp only[aK,aA,aD,aF])
  refine dK rfl ab ?_;(try simp only[aK,aA,aD,aF])
  refine dK rfl ab ?_;(try simp only[aK,aA,aD,aF])
  refine dK rfl ab ?_;(try simp only[aK,aA,aD,aF])
  refine dK rfl ab ?_;(try simp only[aK,aA,aD,aF])
  refine aI rfl ab au ?_;(try simp only[aK,aA,aD,aF])
  refine fO (bF ?_);go_wp2;go_ret;exact⟨rfl,(HB1.o.call HWD.o).call hb2⟩
 cases r2
 ·skip
  go_enter func21,ntmps21;go_wp2_with (refine wpList_boxO rfl 46 (.tmp 0) rfl (cWr w s) rfl ?_)
  intro w0 hb0 hX0;have HB0:=aB hb0;have HX0:=aB hX0;clear hb0 hX0;go_wp2_with fail;refine wp_region_noPanic (bM (fun B=>B.heap[W.heap.size]?=some (.cells (cWr w s).toArray 46 (0,0))) ((.take 1 (.take 2 (.one 0 (.one 3 (.take 4 (.take 5 (.take 6 (.take 7 (.take 8 .done)))))))))) af af af (fun _ _ _ _ _ h=>h) (HX0.o) ?_);intro wd HWD hY;iterate 2 (refine aI rfl ab ay ?_;(try simp only[aK,aA,aD,aF]))
  refine aL rfl (fun K hK=>?_);go_simp;(refine(zkinds_any _).mono ?_;rintro e w1 ⟨rfl,hb1,hM⟩;have hb:=hb1);go_wp2_with fail;refine hK.o _ _ (((hb.block _ (lt_of_heap hY)).trans hY)) ?_;clear hY hK K;intro hY;clear hb;have HM:=aB hM;have hlook:=HLK.o _ _ HM.o;refine aL rfl (fun K hK=>?_);go_simp;refine hK.o _ _ (hY) ?_;clear hY hK K;intro hY;iterate 5 (refine aI rfl ab ay ?_;(try simp only[aK,aA,aD,aF]))
  refine fO (bF ?_);have HB1:=aB ((HB0.o.call HWD.o).call hb1);have HX1:=aB hY;clear hY hM HM hb1 HWD HX0 HB0;go_wp2_with fail;refine wp_region_noPanic (bM (fun B=>B.heap[W.heap.size]?=some (.cells (cWr w s).toArray 46 (0,0))) ((.take 0 (.take 1 (.take 2 (.take 3 (.take 4 (.one 5 (.take 6 (.take 7 (.take 8 (.take 9 (.take 10 (.one 11 (.take 12 (.take 13 (.take 14 (.take 15 (.take 16 (.take 17 (.take 18 (.take 19 (.take 20 .done)))))))))))))))))))))) af af af (fun _ _ _ _ _ h=>h) (HX1.o) ?_);intro wd HWD hY;iterate 4 (refine aI rfl ab au ?_;(try simp only[aK,aA,aD,aF]))
  refine aI rfl ab (fun w hSw=>eD rfl rfl hSw underlying46 rfl wrInfoZ) ?_;(try simp only[aK,aA,aD,aF])
  refine aL rfl (fun K hK=>?_);go_simp;(refine(HF.o _ (HB1.o.call HWD.o)).mono ?_;rintro e w2 ⟨rfl,hb2⟩;have hb:=hb2);go_wp2_with fail;refine hK.o _ _ (((hb.block _ (lt_of_heap hY)).trans hY)) ?_;clear hY hK K;intro hY;clear hb;iterate 4 (refine aI rfl ab au ?_;(try simp only[aK,aA,aD,aF]))
  refine aI rfl ab (fun wS hSw=>run_load_midO rfl rfl (range_of (i:=1) (xs:=[S w.into.t,S w.into.al]) hSw rfl) underlying26 rfl d7e) ?_;(try simp only[aK,aA,aD,aF])
  refine aL rfl (fun K hK=>?_);go_simp;(refine(HSR.o _ ((HB1.o.call HWD.o).call hb2)).mono ?_;rintro e w3 ⟨rfl,hb3⟩;have hb:=hb3);go_wp2_with fail;refine hK.o _ _ (((hb.block _ (lt_of_heap hY)).trans hY)) ?_;clear hY hK K;intro hY;clear hb;iterate 3 (refine aI rfl ab au ?_;(try simp only[aK,aA,aD,aF]))
  refine dK rfl ab ?_;(try simp only[aK,aA,aD,aF])
  refine dK rfl ab ?_;(try simp only[aK,aA,aD,aF])
  refine dK rfl ab ?_;(try simp only[aK,aA,aD,aF])
  refine dK rfl ab ?_;(try simp only[aK,aA,aD,aF])
  refine dK rfl ab ?_;(try simp only[aK,aA,aD,aF])
  refine aI rfl ab au ?_;(try simp only[aK,aA,aD,aF])
  refine fO (bF ?_);go_wp2;go_ret;exact⟨rfl,((HB1.o.call HWD.o).call hb2).call hb3⟩
 go_enter func21,ntmps21;go_wp2_with (refine wpList_boxO rfl 46 (.tmp 0) rfl (cWr w s) rfl ?_)
 intro w0 hb0 hX0;have HB0:=aB hb0;have HX0:=aB hX0;clear hb0 hX0;go_wp2_with fail;refine wp_region_noPanic (bM (fun B=>B.heap[W.heap.size]?=some (.cells (cWr w s).toArray 46 (0,0))) ((.take 1 (.take 2 (.one 0 (.one 3 (.take 4 (.take 5 (.take 6 (.take 7 (.take 8 .done)))))))))) af af af (fun _ _ _ _ _ h=>h) (HX0.o) ?_);intro wd HWD hY;iterate 2 (refine aI rfl ab ay ?_;(try simp only[aK,aA,aD,aF]))
 refine aL rfl (fun K hK=>?_);go_simp;(refine(zkinds_any _).mono ?_;rintro e w1 ⟨rfl,hb1,hM⟩;have hb:=hb1);go_wp2_with fail;refine hK.o _ _ (((hb.block _ (lt_of_heap hY)).trans hY)) ?_;clear hY hK K;intro hY;clear hb;have HM:=aB hM;have hlook:=HLK.o _ _ HM.o;refine aL rfl (fun K hK=>?_);go_simp;refine hK.o _ _ (hY) ?_;clear hY hK K;intro hY;iterate 5 (refine aI rfl ab ay ?_;(try simp only[aK,aA,aD,aF]))
 refine fO (bF ?_);have HB1:=aB ((HB0.o.call HWD.o).call hb1);have HX1:=aB hY;clear hY hM HM hb1 HWD HX0 HB0;go_wp2_with fail;refine wp_region_noPanic (bM (fun B=>B.heap[W.heap.size]?=some (.cells (cWr w s).toArray 46 (0,0))) ((.take 0 (.take 1 (.take 2 (.take 3 (.take 4 (.one 5 (.take 6 (.take 7 (.take 8 (.take 9 (.take 10 (.one 11 (.take 12 (.take 13 (.take 14 (.take 15 (.take 17 (.one 16 (.one 18 (.take 19 (.take 20 .done)))))))))))))))))))))) af af af (fun _ _ _ _ _ h=>h) (HX1.o) ?_);intro wd HWD hY;iterate 4 (refine aI rfl ab au ?_;(try simp only[aK,aA,aD,aF]))
 refine aI rfl ab (fun w hSw=>eD rfl rfl hSw underlying46 rfl wrInfoZ) ?_;(try simp only[aK,aA,aD,aF])
 refine aL rfl (fun K hK=>?_);go_simp;(refine(HF.o _ (HB1.o.call HWD.o)).mono ?_;rintro e w2 ⟨rfl,hb2⟩;have hb:=hb2);go_wp2_with fail;refine hK.o _ _ (((hb.block _ (lt_of_heap hY)).trans hY)) ?_;clear hY hK K;intro hY;clear hb;iterate 4 (refine aI rfl ab au ?_;(try simp only[aK,aA,aD,aF]))
 refine aI rfl ab (fun wS hSw=>run_load_midO rfl rfl (range_of (i:=1) (xs:=[S w.into.t,S w.into.al]) hSw rfl) underlying26 rfl d7e) ?_;(try simp only[aK,aA,aD,aF])
 refine aL rfl (fun K hK=>?_);go_simp;(refine(HSR.o _ ((HB1.o.call HWD.o).call hb2)).mono ?_;rintro e w3 ⟨rfl,hb3⟩;have hb:=hb3);go_wp2_with fail;refine hK.o _ _ (((hb.block _ (lt_of_heap hY)).trans hY)) ?_;clear hY hK K;intro hY;clear hb;iterate 3 (refine aI rfl ab au ?_;(try simp only[aK,aA,aD,aF]))
 refine aI rfl ab (fun w hSw=>eD rfl rfl hSw underlying46 rfl wrInfoZ) ?_;(try simp only[aK,aA,aD,aF])
 refine aI rfl ab (fun w hSw=>eD rfl rfl hSw underlying46 rfl wrInfoZ) ?_;(try simp only[aK,aA,aD,aF])
 refine aL rfl (fun K hK=>?_);go_simp;(refine(HBA.o _ (((HB1.o.call HWD.o).call hb2).call hb3)).mono ?_;rintro e w4 ⟨⟨s',rfl,hs'⟩,hb4⟩;have hb:=hb4);go_wp2_with fail;refine hK.o _ _ (((hb.block _ (lt_of_heap hY)).trans hY)) ?_;clear hY hK K;intro hY;clear hb;refine aL rfl (fun K hK=>?_);go_simp;(refine(HSM.o _ _ ((((HB1.o.call HWD.o).call hb2).call hb3).call hb4) hs').mono ?_;rintro e w5 ⟨rfl,hb5⟩;have hb:=hb5);go_wp2_with fail;refine hK.o _ _ (((hb.block _ (lt_of_heap hY)).trans hY)) ?_;clear hY hK K;intro hY;clear hb;iterate 2 (refine aI rfl ab au ?_;(try simp only[aK,aA,aD,aF]))
 refine fO (bF ?_);have HB5:=aB (((((HB1.o.call HWD.o).call hb2).call hb3).call hb4).call hb5);have HX5:=aB hY;have d52:=cell_of (i:=52) hY rfl;clear hY HWD hb2 hb3 hb4 hb5 hs' HB1 HX1;cases r3
 ·go_wp2;go_ret;exact⟨rfl,HB5.o⟩
 go_wp2_with fail;refine(HIT.o _ HB5.o).mono ?_;rintro e w6 ⟨⟨t,rfl⟩,hb6⟩;have HB6:=aB (HB5.o.call hb6);have HX6:=aB ((hb6.block _ (lt_of_heap HX5.o)).trans HX5.o);have d52:=cell_of (i:=52) HX6.o rfl;rw[er] at d52;clear hb6 HX5 HB5;cases r4
 ·have hpos:=HE2.o rfl;have hle:(w.ret.length:Int)<=1000000:=(by have:=HLT.o;omega);clear HE1 HE2 HE3;cases r5
  all_goals
   go_wp2;go_ret;exact⟨rfl,HB6.o⟩
 ·have hr5:=HE3.o rfl;subst hr5;have hz:w.ret.length=0:=(by have:=HE1.o rfl;omega);rw[hz] at d52;clear HE1 HE2 HE3 hz;go_wp2;go_ret;exact⟨rfl,HB6.o⟩
end
end
end Go.Proofs.YtohlomdapelgeaaGreatDoor
