/- Texts SZ. -/
import Derived.Test.YtohlomdapelgeaaGreatDoorDI
import Derived.Test.YtohlomdapelgeaaGreatDoorCJ
namespace Go.Proofs.YtohlomdapelgeaaGreatDoor
open _root_.Go.Proofs.Tryz
open Go.RowKit
open _root_.Go.Act renaming put->aK
open _root_.Go.RowKit.Below renaming grown->iL
open _root_.Go.Lib renaming hid->aB
open _root_.List renaming append_assoc->iK,length_append->bD,length_map->mD,setIfInBounds_toArray->aA,set_cons_succ->aF,set_cons_zero->aD
open NoPanic renaming normal->bF
set_option maxRecDepth 100000
set_option maxHeartbeats 4000000
section
def cWr(w:Wr)(s:SlW):List Value:=cellsW w s
theorem wrInfoZ:(prog.info? 46).map (·.size)=some 53:=by kernel_rfl
def nestS(l:List (List UInt8)):List UInt8:=if l=[] then[] else[40]++jR [44,32] l++[41]
theorem nest_le{l:List (List UInt8)}{n:Nat}(h:(listedT l).length<=n):(jR [44,32] l).length<=n:=by
 rw[listed_nested] at h;by_cases h0:l=[]
 ·subst h0;simp[jR]
 ·rw[if_neg h0] at h;simp only[bD] at h;omega
theorem listed_nest(l:List (List UInt8)):listedT l=if l=[] then[] else[32]++nestS l:=by
 rw[listed_nested];unfold nestS;by_cases h0:l=[]
 ·rw[if_pos h0,if_pos h0]
 ·rw[if_neg h0,if_neg h0,if_neg h0]
theorem nestS_ne{l:List (List UInt8)}(h:l≠[]):nestS l≠[]:=by simp[nestS,h]
theorem namedT_ne{a b:List UInt8}(h:a≠[]):d4t a b≠[]:=by
 unfold d4t;split
 ·exact h
 ·simp
theorem so_ne{s:So}(h:s.t≠[]):d4g s≠[]:=namedT_ne h
def wInsInto:List UInt8:=[105,110,115,101,114,116,32,105,110,116,111]
def wDelFrom:List UInt8:=[100,101,108,101,116,101,32,102,114,111,109]
def wMrgInto:List UInt8:=[109,101,114,103,101,32,105,110,116,111]
def wOnConf:List UInt8:=[111,110,32,99,111,110,102,108,105,99,116]
def wDoNot:List UInt8:=[100,111,32,110,111,116,104,105,110,103]
theorem opt_words(w:List UInt8)(x:Ex)(hw:w≠[])(a:List UInt8):jR [32] (a::([clauseT w x].filter fullT))=a++optT w x:=by
 rw[clause_opt];unfold clauseT;cases hn:d3i x
 ·rw[if_neg aa,full_cons _ _ (by simp[hw])];simp[jR]
 ·rw[if_pos rfl,full_skip];simp[jR]
theorem opt_le'{w:List UInt8}{x:Ex}{n:Nat}(h:(optT w x).length<=n):(clauseT w x).length<=n:=by
 rw[clause_opt] at h;by_cases hn:d3i x=true
 ·unfold clauseT;rw[if_pos hn];simp
 ·rw[if_neg hn] at h;simp only[bD] at h;omega
section
variable {w:Wr} {p:Nat->Prop} {s:SlW}
structure UpT(w:Wr):Prop where
 into:w.into.t≠[]
 sets:w.sets≠[]
 set:∀x∈w.sets,StOK x
 wx:e0m w.wher
 may:mayB w.wher=true
 ls:w.sets.length<=1000000
theorem up_words(hi:w.into.t≠[])(hs:w.sets≠[]):jR [32] ([wUpdate,d4g w.into,wSet,setsT w.sets,clauseT d6o w.wher].filter fullT)=wUpdate++[32]++d4g w.into++[32]++wSet++[32]++setsT w.sets++optT d6o w.wher:=by
 rw[full_cons _ _ ae,full_cons _ _ (so_ne hi),full_cons _ _ ae,full_cons _ _ (setsT_ne hs)];have h:=opt_words d6o w.wher ae (setsT w.sets);simp only[jR,h,iK]
theorem del_words(hi:w.into.t≠[]):jR [32] ([wDelFrom,d4g w.into,clauseT d6o w.wher].filter fullT)=wDelete++[32]++d5p++[32]++d4g w.into++optT d6o w.wher:=by
 rw[full_cons _ _ ae,full_cons _ _ (so_ne hi)];have h:=opt_words d6o w.wher ae (d4g w.into);simp only[jR,h];simp[wDelFrom,wDelete,d5p]
theorem ztexts2_any(h:UpT w){T:List UInt8}(hT:T=wUpdate++[32]++d4g w.into++[32]++wSet++[32]++setsT w.sets++optT d6o w.wher)(hl:T.length<=100000000)(W:World)(hp:PartsW p W w s)(hG:nD W):
  eg 66 #[.agg (cWr w s).toArray] W fun e w'=>e= .returned (S T)/\Bl W w':=by
 have hl2:=hl;rw[hT] at hl2;simp only[bD] at hl2;have HF:Hid (∀v,eg 62 #[.agg #[S w.into.t,S w.into.al]] v fun e w'=>e= .returned (S (d4g w.into))/\Bl v w'):=fun v=>zfrom_any h.into aE v;have HT:Hid (∀v,Bl W v->eg 67 #[s.sets,.func (.func 68) #[] #[]] v fun e w'=>(∃v',e= .returned v'/\((w.sets.map setT=[]/\∃a c,v'= .slice a 0 c)\/StrsO w' v' (w.sets.map setT)))/\Bl v w'):=fun v hb=>ztoldSets_any h.set h.ls aE v s.sets (hp.sets.bl hb) (hG.bl hb);have HC:Hid (∀v sv,((w.sets.map setT=[]/\∃a c,sv= .slice a 0 c)\/StrsO v sv (w.sets.map setT))->eg 58 #[sv] v fun e w'=>e= .returned (S (setsT w.sets))/\Bl v w'):=fun v sv hs=>zcommas_any (hs.resolve_left fun e=>by simpa[h.sets] using e.1) (by simpa using h.ls) (show(setsT w.sets).length<=_ by omega);have HL:Hid (∀v,Bl W v->eg 65 #[S d6o,.agg (qD w.wher s.wher).toArray] v fun e w'=>e= .returned (S (clauseT d6o w.wher))/\Bl v w'):=fun v hb=>zclause_any d6o ae h.wx h.may (opt_le' aE) v _ ⟨s.wher,rfl,hp.wher.reads.bl hb⟩ (hG.bl hb);have hwd:=up_words h.into h.sets;rw[<-hT] at hwd;have HW:Hid (∀v,eg 24 #[.slice (some ⟨v.heap.size,0,none⟩) 5 5] (v.alloc (.cells #[S wUpdate,S (d4g w.into),S wSet,S (setsT w.sets),S (clauseT d6o w.wher)] 9)) fun e w'=>e= .returned (S T)/\Bl v w'):=fun v=>by
  have h:=zwords_new (W:=v) [wUpdate,d4g w.into,wSet,setsT w.sets,clauseT d6o w.wher] _ 5 _ rfl rfl aa rfl ⟨wUpdate,by simp,by decide⟩ (by rw[hwd];exact hl);rw[hwd] at h;exact h
 generalize d4g w.into=u1 at *;generalize clauseT d6o w.wher=u2 at *;generalize setsT w.sets=u3 at *;clear hT hl hl2 hwd hp hG h;go_enter func66,ntmps66;go_wp2_with (refine wpList_boxO rfl 46 (.tmp 0) rfl (cWr w s) rfl ?_)
 intro w0 hb0 hX0;have HB0:=aB hb0;have HX0:=aB hX0;clear hb0 hX0;go_wp2_with fail;refine wp_region_noPanic (bM (fun B=>B.heap[W.heap.size]?=some (.cells (cWr w s).toArray 46 (0,0))) ((.take 0 (.take 1 (.take 3 (.take 4 (.take 7 (.take 8 (.one 2 (.one 5 (.one 6 (.one 9 (.one 10 (.one 11 (.take 12 .done)))))))))))))) af af af (fun _ _ _ _ _ h=>h) (HX0.o) ?_);intro wd HWD hY;refine aI rfl ab eK ?_;(try simp only[aK,aA,aD,aF])
 refine aI rfl ab (fun wS hSw=>run_load_midO rfl rfl (range_of (i:=1) (xs:=[S w.into.t,S w.into.al]) hSw rfl) underlying26 rfl d7e) ?_;(try simp only[aK,aA,aD,aF])
 iterate 3 (refine aI rfl ab eK ?_;(try simp only[aK,aA,aD,aF]))
 refine aI rfl ab (fun wS hSw=>run_load_midO rfl rfl (range_of (i:=33) (xs:=qD w.wher s.wher) hSw rfl) underlying38 rfl d4b) ?_;(try simp only[aK,aA,aD,aF])
 refine aL rfl (fun K hK=>?_);go_simp;(refine(HF.o _).mono ?_;rintro e w1 ⟨rfl,hb1⟩;have hb:=hb1);go_wp2_with fail;refine hK.o _ _ (ap) ?_;clear hY hK K;intro hY;clear hb;refine aL rfl (fun K hK=>?_);go_simp;(refine(HT.o _ ((HB0.o.call HWD.o).call hb1)).mono ?_;rintro e w2 ⟨⟨v',rfl,hs⟩,hb2⟩;have hb:=hb2);go_wp2_with fail;refine hK.o _ _ (ap) ?_;clear hY hK K;intro hY;clear hb;refine aL rfl (fun K hK=>?_);go_simp;(refine(HC.o _ _ hs).mono ?_;rintro e w3 ⟨rfl,hb3⟩;have hb:=hb3);go_wp2_with fail;refine hK.o _ _ (ap) ?_;clear hY hK K;intro hY;clear hb hs;refine aL rfl (fun K hK=>?_);go_simp;(refine(HL.o _ ((((HB0.o.call HWD.o).call hb1).call hb2).call hb3)).mono ?_;rintro e w4 ⟨rfl,hb4⟩;have hb:=hb4);go_wp2_with fail;refine hK.o _ _ (ap) ?_;clear hY hK K;intro hY;clear hb;have HEX:=aB hY;refine aL rfl (fun K hK=>?_);go_simp;refine hK.o _ _ (((((Bl.refl _).alloc _).block _ (lt_of_heap hY)).trans hY)) ?_;clear hY hK K;intro hY;refine aL rfl (fun K hK=>?_);go_simp;(refine(HW.o _).mono ?_;rintro e w5 ⟨rfl,hb5⟩;have hb:=hb5);go_wp2_with fail;refine hK.o _ _ (ap) ?_;clear hY hK K;intro hY;clear hb;refine aI rfl ab eK ?_;(try simp only[aK,aA,aD,aF])
 refine fO (bF ?_);go_wp2;go_ret;exact⟨rfl,(((((HB0.o.call HWD.o).call hb1).call hb2).call hb3).call hb4).call hb5⟩
theorem ztexts3_any(hi:w.into.t≠[])(hx:e0m w.wher)(hm:mayB w.wher=true){T:List UInt8}(hT:T=wDelete++[32]++d5p++[32]++d4g w.into++optT d6o w.wher)(hl:T.length<=100000000)(W:World)(hp:PartsW p W w s)(hG:nD W):
  eg 69 #[.agg (cWr w s).toArray] W fun e w'=>e= .returned (S T)/\Bl W w':=by
 have hl2:=hl;rw[hT] at hl2;simp only[bD] at hl2;have HF:Hid (∀v,eg 62 #[.agg #[S w.into.t,S w.into.al]] v fun e w'=>e= .returned (S (d4g w.into))/\Bl v w'):=fun v=>zfrom_any hi aE v;have HL:Hid (∀v,Bl W v->eg 65 #[S d6o,.agg (qD w.wher s.wher).toArray] v fun e w'=>e= .returned (S (clauseT d6o w.wher))/\Bl v w'):=fun v hb=>zclause_any d6o ae hx hm (opt_le' aE) v _ ⟨s.wher,rfl,hp.wher.reads.bl hb⟩ (hG.bl hb);have hwd:=del_words (w:=w) hi;rw[<-hT] at hwd;have HW:Hid (∀v,eg 24 #[.slice (some ⟨v.heap.size,0,none⟩) 3 3] (v.alloc (.cells #[S wDelFrom,S (d4g w.into),S (clauseT d6o w.wher)] 9)) fun e w'=>e= .returned (S T)/\Bl v w'):=fun v=>by
  have h:=zwords_new (W:=v) [wDelFrom,d4g w.into,clauseT d6o w.wher] _ 3 _ rfl rfl aa rfl ⟨wDelFrom,by simp,by decide⟩ (by rw[hwd];exact hl);rw[hwd] at h;exact h
 generalize d4g w.into=u1 at *;generalize clauseT d6o w.wher=u2 at *;clear hT hl hl2 hwd hp hG hi hx hm;go_enter func69,ntmps69;go_wp2_with (refine wpList_boxO rfl 46 (.tmp 0) rfl (cWr w s) rfl ?_)
 intro w0 hb0 hX0;have HB0:=aB hb0;have HX0:=aB hX0;clear hb0 hX0;go_wp2_with fail;refine wp_region_noPanic (bM (fun B=>B.heap[W.heap.size]?=some (.cells (cWr w s).toArray 46 (0,0))) ((.take 0 (.take 1 (.take 3 (.take 4 (.one 2 (.one 5 (.one 6 (.one 7 (.take 8 .done)))))))))) af af af (fun _ _ _ _ _ h=>h) (HX0.o) ?_);intro wd HWD hY;refine aI rfl ab au ?_;(try simp only[aK,aA,aD,aF])
 refine aI rfl ab (fun wS hSw=>run_load_midO rfl rfl (range_of (i:=1) (xs:=[S w.into.t,S w.into.al]) hSw rfl) underlying26 rfl d7e) ?_;(try simp only[aK,aA,aD,aF])
 refine aI rfl ab au ?_;(try simp only[aK,aA,aD,aF])
 refine aI rfl ab (fun wS hSw=>run_load_midO rfl rfl (range_of (i:=33) (xs:=qD w.wher s.wher) hSw rfl) underlying38 rfl d4b) ?_;(try simp only[aK,aA,aD,aF])
 refine aL rfl (fun K hK=>?_);go_simp;(refine(HF.o _).mono ?_;rintro e w1 ⟨rfl,hb1⟩;have hb:=hb1);go_wp2_with fail;refine hK.o _ _ (ap) ?_;clear hY hK K;intro hY;clear hb;refine aL rfl (fun K hK=>?_);go_simp;(refine(HL.o _ ((HB0.o.call HWD.o).call hb1)).mono ?_;rintro e w4 ⟨rfl,hb4⟩;have hb:=hb4);go_wp2_with fail;refine hK.o _ _ (ap) ?_;clear hY hK K;intro hY;clear hb;have HEX:=aB hY;refine aL rfl (fun K hK=>?_);go_simp;refine hK.o _ _ (((((Bl.refl _).alloc _).block _ (lt_of_heap hY)).trans hY)) ?_;clear hY hK K;intro hY;refine aL rfl (fun K hK=>?_);go_simp;(refine(HW.o _).mono ?_;rintro e w5 ⟨rfl,hb5⟩;have hb:=hb5);go_wp2_with fail;refine hK.o _ _ (ap) ?_;clear hY hK K;intro hY;clear hb;refine aI rfl ab au ?_;(try simp only[aK,aA,aD,aF])
 refine fO (bF ?_);go_wp2;go_ret;exact⟨rfl,(((HB0.o.call HWD.o).call hb1).call hb4).call hb5⟩
theorem flat_when:∀{l:List Wn},l≠[]->l.flatMap whenT=[32]++jR [32] (l.map whenW)
 |[],h=>absurd rfl h
 |[x],_=>by simp[whenT_w,jR]
 |x::y::r,_=>by
  have ih:=flat_when (l:=y::r) aa;rw[List.flatMap_cons,ih,whenT_w];simp[jR]
theorem whenW_ne(x:Wn):whenW x≠[]:=by simp[whenW,wWhen]
structure MgT(w:Wr):Prop where
 into:w.into.t≠[]
 using':w.using'.t≠[]
 on:e0m w.on
 con:eH w.on=true
 whens:w.whens≠[]
 wn:∀x∈w.whens,(whenW x).length<=100000000->WnT x
 lw:w.whens.length<=1000000
theorem mg_words(hi:w.into.t≠[])(hu:w.using'.t≠[])(hc:eH w.on=true)(hw:w.whens≠[]):jR [32] ([wMrgInto,d4g w.into,wUsing,d4g w.using',wOn,eY w.on,jR [32] (w.whens.map whenW)].filter fullT)=
  wMerge++[32]++wInto++[32]++d4g w.into++[32]++wUsing++[32]++d4g w.using'++[32]++wOn++[32]++eY w.on++w.whens.flatMap whenT:=by
 have hj:jR [32] (w.whens.map whenW)≠[]:=join_ne (by simpa using hw) fun x hx=>by
  obtain⟨y,-,rfl⟩:=List.mem_map.1 hx;exact whenW_ne y
 rw[full_cons _ _ ae,full_cons _ _ (so_ne hi),full_cons _ _ ae,full_cons _ _ (so_ne hu),full_cons _ _ ae,full_cons _ _ (textE_ne hc),full_cons _ _ hj,flat_when hw];simp[jR,wMrgInto,wMerge,wInto]
theorem zwhens_any(hw:w.whens≠[])(lw:w.whens.length<=1000000)(hl:(jR [32] (w.whens.map whenW)).length<=100000000){base:Nat}{v:Value}{V W:World}(hV:V.heap.size=base)(hb:Bl V W)(hown:W.ownsRow base 9 1 v w.whens.length ((w.whens.map whenW).map fun x=>S x)):
  eg 24 #[v] W fun e w'=>e= .returned (S (jR [32] (w.whens.map whenW)))/\Bl V w':=by
 have hall:∀x∈w.whens.map whenW,x≠[]:=fun x hx=>by
  obtain⟨y,-,rfl⟩:=List.mem_map.1 hx;exact whenW_ne y
 have h:=zwords_any (l:=w.whens.map whenW) (by simpa using lw) (by rw[mD];exact hown) (by
  cases hx:w.whens with
  |nil=>exact absurd hx hw
  |cons y r=>exact⟨whenW y,by simp,whenW_ne y⟩) (by rw[full_all hall];exact hl)
 rw[full_all hall] at h;refine h.mono ?_;rintro e w' ⟨rfl,hg⟩;have hlow:=hown.lt;exact⟨rfl,iL hb hg (by have:=hb.size;omega) (fun j hj=>by have:=(hlow j hj).1;omega)⟩
theorem ztexts4_any(h:MgT w){T:List UInt8}(hT:T=wMerge++[32]++wInto++[32]++d4g w.into++[32]++wUsing++[32]++d4g w.using'++[32]++wOn++[32]++eY w.on++w.whens.flatMap whenT)(hl:T.length<=100000000)(W:World)(hp:PartsW p W w s)(hG:nD W):
  eg 70 #[.agg (cWr w s).toArray] W fun e w'=>e= .returned (S T)/\Bl W w':=by
 have hl2:=hl;rw[hT,flat_when h.whens] at hl2;simp only[bD] at hl2;have hlj:(jR [32] (w.whens.map whenW)).length<=100000000:=aE;have hwn:∀x∈w.whens,WnT x:=fun x hx=>h.wn x hx (join_mem_le hlj x hx);have HF:Hid (∀v,eg 62 #[.agg #[S w.into.t,S w.into.al]] v fun e w'=>e= .returned (S (d4g w.into))/\Bl v w'):=fun v=>zfrom_any h.into aE v;have HU:Hid (∀v,eg 62 #[.agg #[S w.using'.t,S w.using'.al]] v fun e w'=>e= .returned (S (d4g w.using'))/\Bl v w'):=fun v=>zfrom_any h.using' aE v;have HE:Hid (∀v,Bl W v->eg 71 #[.agg (qD w.on s.on).toArray] v fun e w'=>e= .returned (S (eY w.on))/\Bl v w'):=fun v hb=>ztext_any h.on h.con v _ ⟨s.on,rfl,hp.on.reads.bl hb⟩ (hG.bl hb);have HT:Hid (∀v,Bl W v->eg 72 #[s.whens,.func (.func 73) #[] #[]] v fun e w'=>(∃v',e= .returned v'/\w'.ownsRow v.heap.size 9 1 v' w.whens.length ((w.whens.map whenW).map fun x=>S x))/\Bl v w'):=fun v hb=>
  ztoldWhen_any (hp.whens.bl hb) h.lw (tx:=whenW) enters_zwhenText fun x hx W' cs hb' hcs=>zwhenText_any (hwn x hx) W' hcs (hG.bl (hb.call hb'))
 have HJ:Hid (∀V v v',Bl V v->v.ownsRow V.heap.size 9 1 v' w.whens.length ((w.whens.map whenW).map fun x=>S x)->eg 24 #[v'] v fun e w'=>e= .returned (S (jR [32] (w.whens.map whenW)))/\Bl V w'):=fun V v v' hb ho=>zwhens_any h.whens h.lw hlj rfl hb ho;have hwd:=mg_words h.into h.using' h.con h.whens;rw[<-hT] at hwd;have HW:Hid (∀v,eg 24 #[.slice (some ⟨v.heap.size,0,none⟩) 7 7] (v.alloc (.cells #[S wMrgInto,S (d4g w.into),S wUsing,S (d4g w.using'),S wOn,S (eY w.on),S (jR [32] (w.whens.map whenW))] 9)) fun e w'=>e= .returned (S T)/\Bl v w'):=fun v=>by
  have h:=zwords_new (W:=v) [wMrgInto,d4g w.into,wUsing,d4g w.using',wOn,eY w.on,jR [32] (w.whens.map whenW)] _ 7 _ rfl rfl aa rfl ⟨wMrgInto,by simp,by decide⟩ (by rw[hwd];exact hl);rw[hwd] at h;exact h
 generalize d4g w.into=u1 at *;generalize d4g w.using'=u2 at *;generalize eY w.on=u3 at *;generalize jR [32] (w.whens.map whenW)=u4 at *;clear hT hl hl2 hlj hwn hwd hp hG h;go_enter func70,ntmps70;go_wp2_with (refine wpList_boxO rfl 46 (.tmp 0) rfl (cWr w s) rfl ?_)
 intro w0 hb0 hX0;have HB0:=aB hb0;have HX0:=aB hX0;clear hb0 hX0;go_wp2_with fail;refine wp_region_noPanic (bM (fun B=>B.heap[W.heap.size]?=some (.cells (cWr w s).toArray 46 (0,0))) ((.take 0 (.take 1 (.take 3 (.take 4 (.take 6 (.take 7 (.take 9 (.take 10 (.one 2 (.one 5 (.one 8 (.one 11 (.one 12 (.one 13 (.one 14 (.take 15 .done))))))))))))))))) af af af (fun _ _ _ _ _ h=>h) (HX0.o) ?_);intro wd HWD hY;refine aI rfl ab cz ?_;(try simp only[aK,aA,aD,aF])
 refine aI rfl ab (fun wS hSw=>run_load_midO rfl rfl (range_of (i:=1) (xs:=[S w.into.t,S w.into.al]) hSw rfl) underlying26 rfl d7e) ?_;(try simp only[aK,aA,aD,aF])
 refine aI rfl ab cz ?_;(try simp only[aK,aA,aD,aF])
 refine aI rfl ab (fun wS hSw=>run_load_midO rfl rfl (range_of (i:=41) (xs:=[S w.using'.t,S w.using'.al]) hSw rfl) underlying26 rfl d7e) ?_;(try simp only[aK,aA,aD,aF])
 refine aI rfl ab cz ?_;(try simp only[aK,aA,aD,aF])
 refine aI rfl ab (fun wS hSw=>run_load_midO rfl rfl (range_of (i:=43) (xs:=qD w.on s.on) hSw rfl) underlying38 rfl d4b) ?_;(try simp only[aK,aA,aD,aF])
 iterate 2 (refine aI rfl ab cz ?_;(try simp only[aK,aA,aD,aF]))
 refine aL rfl (fun K hK=>?_);go_simp;(refine(HF.o _).mono ?_;rintro e w1 ⟨rfl,hb1⟩;have hb:=hb1);go_wp2_with fail;refine hK.o _ _ (ap) ?_;clear hY hK K;intro hY;clear hb;refine aL rfl (fun K hK=>?_);go_simp;(refine(HU.o _).mono ?_;rintro e w2 ⟨rfl,hb2⟩;have hb:=hb2);go_wp2_with fail;refine hK.o _ _ (ap) ?_;clear hY hK K;intro hY;clear hb;refine aL rfl (fun K hK=>?_);go_simp;(refine(HE.o _ (((HB0.o.call HWD.o).call hb1).call hb2)).mono ?_;rintro e w3 ⟨rfl,hb3⟩;have hb:=hb3);go_wp2_with fail;refine hK.o _ _ (ap) ?_;clear hY hK K;intro hY;clear hb;have HEX:=aB hY;refine aL rfl (fun K hK=>?_);go_simp;(refine(HT.o _ ((((HB0.o.call HWD.o).call hb1).call hb2).call hb3)).mono ?_;rintro e w4 ⟨⟨v',rfl,ho⟩,hb4⟩;have hb:=hb4);go_wp2_with fail;refine hK.o _ _ (ap) ?_;clear hY hK K;intro hY;clear hb;refine aL rfl (fun K hK=>?_);go_simp;(refine(HJ.o _ _ _ hb4 ho).mono ?_;rintro e w5 ⟨rfl,hb7⟩;have hb:=hb7);go_wp2_with fail;refine hK.o _ _ (ap) ?_;clear hY hK K;intro hY;clear hb HEX;have HEX:=aB hY;refine aL rfl (fun K hK=>?_);go_simp;refine hK.o _ _ (((((Bl.refl _).alloc _).block _ (lt_of_heap hY)).trans hY)) ?_;clear hY hK K;intro hY;refine aL rfl (fun K hK=>?_);go_simp;(refine(HW.o _).mono ?_;rintro e w6 ⟨rfl,hb6⟩;have hb:=hb6);go_wp2_with fail;refine hK.o _ _ (ap) ?_;clear hY hK K;intro hY;clear hb;refine aI rfl ab cz ?_;(try simp only[aK,aA,aD,aF])
 refine fO (bF ?_);go_wp2;go_ret;exact⟨rfl,(((((HB0.o.call HWD.o).call hb1).call hb2).call hb3).call hb7).call hb6⟩
end
end
end Go.Proofs.YtohlomdapelgeaaGreatDoor
