/- Texts TA. -/
import Derived.Test.YtohlomdapelgeaaGreatDoorDJ
namespace Go.Proofs.YtohlomdapelgeaaGreatDoor
open _root_.Go.Proofs.Tryz
open Go.RowKit
open _root_.Go.Act renaming put->aK
open _root_.Bool renaming false_eq_true->fM
open _root_.Go.Lib renaming hid->aB
open _root_.List renaming length_append->bD,length_cons->aX,length_nil->bL,setIfInBounds_toArray->aA,set_cons_succ->aF,set_cons_zero->aD
open _root_.Nat renaming le_refl->aH,le_trans->jH
open NoPanic renaming normal->bF
open _root_.Go.Region renaming wanted->jG
set_option maxRecDepth 100000
set_option maxHeartbeats 8000000
section
theorem join_nil(a:Option Addr)(c:Nat)(sep:List UInt8)(W:World):eg 78 #[.slice a 0 c,S sep] W fun e w'=>e= .returned (S [])/\Bl W w':=by
 go_enter func78,ntmps78;go_wp2;go_ret;exact⟨rfl,Bl.refl _⟩
theorem commas_nil(a:Option Addr)(c:Nat)(W:World):eg 58 #[.slice a 0 c] W fun e w'=>e= .returned (S [])/\Bl W w':=by
 go_enter func58,ntmps58;go_wp2_with fail;refine(join_nil a c [44,32] _).mono ?_;rintro e w1 ⟨rfl,hb⟩;go_wp2;go_ret;exact⟨rfl,hb⟩
theorem enters_zvalues(args:Array Value)(w:World):(callFunc 60 args).run prog w= .ok (.enter 60 args) w:=by simp[go_sem]
section
variable {w:Wr} {p:Nat->Prop} {s:SlW}
def rowsT(w:Wr):List UInt8:=wValues++[32]++jR [44,32] (w.rows.map rowT)
def rowsQT(w:Wr):List UInt8:=if w.hasQ then d8n w.query else rowsT w
def headT(w:Wr):List UInt8:=wInsert++[32]++wInto++[32]++d4g w.into++listedT w.cols++[32]++rowsQT w
structure InT(w:Wr):Prop where
 into:w.into.t≠[]
 rows:(w.hasQ=true/\w.rows=[]/\e1a w.query/\d3e w.query=true)\/(w.hasQ=false/\w.rows≠[]/\∀r∈w.rows,r≠[]/\r.length<=1000000/\∀x∈r,e0m x/\eH x=true)
 act:(w.act=0/\w.conf=[])\/(w.act=1/\w.conf≠[])\/(w.act=2/\w.conf≠[]/\w.sets≠[]/\(∀x∈w.sets,StOK x)/\e0m w.wher/\mayB w.wher=true)
 lr:w.rows.length<=1000000
 lc:w.cols.length<=1000000
 lf:w.conf.length<=1000000
 ls:w.sets.length<=1000000
theorem textQ_ne(q:Qu):d8n q≠[]:=by simp[d8n,d3h]
theorem rowsQ_ne(w:Wr):rowsQT w≠[]:=by
 unfold rowsQT;split
 ·exact textQ_ne _
 ·simp[rowsT,wValues]
theorem head_words(hi:w.into.t≠[]):jR [32] ([wInsInto,d4g w.into,nestS w.cols,rowsQT w].filter fullT)=headT w:=by
 have hr:=rowsQ_ne w;unfold headT;rw[full_cons _ _ ae,full_cons _ _ (so_ne hi),listed_nest];by_cases h0:w.cols=[]
 ·rw[show nestS w.cols=[] from if_pos h0,if_pos h0,full_skip,full_cons _ _ hr];simp[jR,wInsInto,wInsert,wInto]
 ·rw[if_neg h0,full_cons _ _ (nestS_ne h0),full_cons _ _ hr];simp[jR,wInsInto,wInsert,wInto]
theorem headT_ne(w:Wr):headT w≠[]:=by simp[headT,wInsert]
theorem body_in(hk:w.kind=1):bodyT w=headT w++conflT w:=by
 unfold bodyT headT rowsQT rowsT;rw[if_pos hk]
theorem not_words(hf:w.conf≠[])(ha:w.act=1):jR [32] ([headT w,wOnConf,nestS w.conf,wDoNot].filter fullT)=headT w++conflT w:=by
 unfold conflT;rw[full_cons _ _ (headT_ne w),full_cons _ _ ae,full_cons _ _ (nestS_ne hf),full_cons _ _ ae,ha,if_neg ae,if_pos rfl,listed_nest,if_neg hf];simp[jR,wOnConf,wDoNot,wOn,wConflict,wDo,wNothing]
theorem upd_words(hf:w.conf≠[])(ha:w.act=2):jR [32] ([headT w,wOnConf,nestS w.conf,wDo,updT w.sets,clauseT d6o w.wher].filter fullT)=headT w++conflT w:=by
 unfold conflT;rw[full_cons _ _ (headT_ne w),full_cons _ _ ae,full_cons _ _ (nestS_ne hf),full_cons _ _ ae,full_cons _ _ (by simp[updT,wUpdSet]),ha,if_neg ae,if_neg ae,listed_nest,if_neg hf];have h:=opt_words d6o w.wher ae (updT w.sets);simp only[jR,h];simp[wOnConf,wOn,wConflict,wDo,updT,wUpdSet,wUpdate,wSet]
structure InC(W:World)(w:Wr)(s:SlW)(T:List UInt8):Prop where
 frm:∀v,eg 62 #[.agg #[S w.into.t,S w.into.al]] v fun e w'=>e= .returned (S (d4g w.into))/\Bl v w'
 cols:∀v,Bl W v->eg 63 #[s.cols] v fun e w'=>e= .returned (S (nestS w.cols))/\Bl v w'
 conf:∀v,Bl W v->eg 63 #[s.conf] v fun e w'=>e= .returned (S (nestS w.conf))/\Bl v w'
 head:∀v,eg 24 #[.slice (some ⟨v.heap.size,0,none⟩) 4 4] (v.alloc (.cells #[S wInsInto,S (d4g w.into),S (nestS w.cols),S (rowsQT w)] 9)) fun e w'=>e= .returned (S (headT w))/\Bl v w'
 wn:w.act=1->∀v,eg 24 #[.slice (some ⟨v.heap.size,0,none⟩) 4 4] (v.alloc (.cells #[S (headT w),S wOnConf,S (nestS w.conf),S wDoNot] 9)) fun e w'=>e= .returned (S T)/\Bl v w'
 up:w.act=2->∀v,Bl W v->eg 64 #[s.sets] v fun e w'=>e= .returned (S (updT w.sets))/\Bl v w'
 cl:w.act=2->∀v,Bl W v->eg 65 #[S d6o,.agg (qD w.wher s.wher).toArray] v fun e w'=>e= .returned (S (clauseT d6o w.wher))/\Bl v w'
 wu:w.act=2->∀v,eg 24 #[.slice (some ⟨v.heap.size,0,none⟩) 6 6] (v.alloc (.cells #[S (headT w),S wOnConf,S (nestS w.conf),S wDo,S (updT w.sets),S (clauseT d6o w.wher)] 9)) fun e w'=>e= .returned (S T)/\Bl v w'
 act:(w.act=0/\T=headT w)\/w.act=1\/w.act=2
theorem in_c(h:InT w){T:List UInt8}(hT:T=headT w++conflT w)(hl:T.length<=100000000){W:World}(hp:PartsW p W w s)(hG:nD W):InC W w s T:=by
 have hl2:=hl;rw[hT] at hl2;have hlh:(headT w).length<=100000000:=(by simp only[bD] at hl2;omega);have hlc:(jR [44,32] w.conf).length<=100000000:=by
  rcases h.act with⟨-,ha⟩|⟨ha,-⟩|⟨ha,-⟩
  ·rw[ha];simp[jR]
  ·unfold conflT at hl2;rw[if_neg (by rw[ha];decide)] at hl2;simp only[bD] at hl2;exact nest_le aE
  ·unfold conflT at hl2;rw[if_neg (by rw[ha];decide)] at hl2;simp only[bD] at hl2;exact nest_le aE
 have hh:=hlh;unfold headT at hh;simp only[bD] at hh;have H2:w.act=2->w.conf≠[]/\w.sets≠[]/\(∀x∈w.sets,StOK x)/\e0m w.wher/\mayB w.wher=true:=fun e=>by
  rcases h.act with⟨ha,-⟩|⟨ha,-⟩|⟨-,h⟩
  ·rw[e] at ha;cases ha
  ·rw[e] at ha;cases ha
  ·exact h
 have hlu:w.act=2->(updT w.sets).length<=100000000/\(optT d6o w.wher).length<=100000000:=fun e=>by
  unfold conflT at hl2;rw[if_neg (by rw[e];decide),if_neg (by rw[e];decide)] at hl2;simp only[bD,updT,wUpdSet,wUpdate,wSet,aX,bL] at hl2⊢;omega
 refine⟨fun v=>zfrom_any h.into aE v,fun v hb=>znested_any (strs_of (hp.cols.bl hb)) h.lc (nest_le aE),fun v hb=>znested_any (strs_of (hp.conf.bl hb)) h.lf hlc,fun v=>?_,fun e v=>?_,fun e v hb=>?_,fun e v hb=>?_,fun e v=>?_,?_⟩
 ·have h1:=zwords_new (W:=v) [wInsInto,d4g w.into,nestS w.cols,rowsQT w] _ 4 _ rfl rfl aa rfl ⟨wInsInto,by simp,by decide⟩ (by rw[head_words h.into];exact hlh);rw[head_words h.into] at h1;exact h1
 ·have hf:w.conf≠[]:=by
   rcases h.act with⟨ha,-⟩|⟨-,h⟩|⟨ha,-⟩
   ·rw[e] at ha;cases ha
   ·exact h
   ·rw[e] at ha;cases ha
  have h1:=zwords_new (W:=v) [headT w,wOnConf,nestS w.conf,wDoNot] _ 4 _ rfl rfl aa rfl ⟨headT w,by simp,headT_ne w⟩ (by rw[not_words hf e,<-hT];exact hl);rw[not_words hf e,<-hT] at h1;exact h1
 ·obtain⟨-,h1,h2,-,-⟩:=H2 e;exact zupdT_any h2 h1 h.ls (hlu e).1 v s.sets (hp.sets.bl hb) (hG.bl hb)
 ·obtain⟨-,-,-,h1,h2⟩:=H2 e;exact zclause_any d6o ae h1 h2 (opt_le' (hlu e).2) v _ ⟨s.wher,rfl,hp.wher.reads.bl hb⟩ (hG.bl hb)
 ·obtain⟨hf,-⟩:=H2 e;have h1:=zwords_new (W:=v) [headT w,wOnConf,nestS w.conf,wDo,updT w.sets,clauseT d6o w.wher] _ 6 _ rfl rfl aa rfl ⟨headT w,by simp,headT_ne w⟩ (by rw[upd_words hf e,<-hT];exact hl);rw[upd_words hf e,<-hT] at h1;exact h1
 ·rcases h.act with⟨ha,-⟩|⟨ha,-⟩|⟨ha,-⟩
  ·refine .inl ⟨ha,?_⟩;rw[hT];unfold conflT;rw[if_pos ha,List.append_nil]
  ·exact .inr (.inl ha)
  ·exact .inr (.inr ha)
def rowsV(w:Wr):List UInt8:=if w.rows=[] then wValues else rowsT w
structure InR(W:World)(w:Wr)(s:SlW):Prop where
 told:∀v,Bl W v->eg 59 #[s.rows,.func (.func 60) #[] #[]] v fun e w'=>(∃v',e= .returned v'/\((w.rows.map rowT=[]/\∃a c,v'= .slice a 0 c)\/StrsO w' v' (w.rows.map rowT)))/\Bl v w'
 commas:∀v sv,((w.rows.map rowT=[]/\∃a c,sv= .slice a 0 c)\/StrsO v sv (w.rows.map rowT))->eg 58 #[sv] v fun e w'=>e= .returned (S (jR [44,32] (w.rows.map rowT)))/\Bl v w'
 words:∀v,eg 24 #[.slice (some ⟨v.heap.size,0,none⟩) 2 2] (v.alloc (.cells #[S wValues,S (jR [44,32] (w.rows.map rowT))] 9)) fun e w'=>e= .returned (S (rowsV w))/\Bl v w'
theorem in_r(hrow:∀r∈w.rows,r≠[]/\r.length<=1000000/\∀x∈r,e0m x/\eH x=true)(lr:w.rows.length<=1000000)(hl:(jR [44,32] (w.rows.map rowT)).length<=99999990){W:World}(hp:PartsW p W w s)(hG:nD W):InR W w s:=by
 refine⟨fun v hb=>?_,fun v sv h=>?_,fun v=>?_⟩
 ·refine(ztoldRow_any (hp.rows.bl hb) lr (tx:=rowT) enters_zvalues fun x hx W' sx hb' hs=>?_).mono fun e w' h=>?_
  ·have h1:=hrow x hx;have h2:=zvalues_any h1.2.2 h1.2.1 (jH (join_mem_le hl x hx) ae) W' sx hs (hG.bl (hb.call hb'));rw[show valuesT x=rowT x from if_neg h1.1] at h2;exact h2
  ·obtain⟨⟨v',h1,h2⟩,h3⟩:=h;exact⟨⟨v',h1,own_told h2⟩,h3⟩
 ·rcases h with⟨h0,a,c,rfl⟩|h
  ·rw[h0];exact commas_nil a c v
  ·exact zcommas_any h (by simpa using lr) aE
 ·have hw:jR [32] ([wValues,jR [44,32] (w.rows.map rowT)].filter fullT)=rowsV w:=by
   unfold rowsV;rw[full_cons _ _ ae];by_cases h0:w.rows=[]
   ·rw[if_pos h0,h0,show jR [44,32] (([]:List (List Ex)).map rowT)=[] from rfl,full_skip];rfl
   ·rw[if_neg h0,full_cons _ _ (join_ne cA fun x hx=>by
     obtain⟨y,-,rfl⟩:=List.mem_map.1 hx;simp[rowT])]
    simp[jR,rowsT]
  have h1:=zwords_new (W:=v) [wValues,jR [44,32] (w.rows.map rowT)] _ 2 _ rfl rfl aa rfl ⟨wValues,by simp,by decide⟩ (by
   rw[hw];unfold rowsV rowsT;split
   ·decide
   ·simp only[bD,wValues,aX,bL];omega)
  rw[hw] at h1;exact h1
theorem lowQ{p:Nat->Prop}{W:World}{q:Qu}{si sj sw sg sh so:Value}(h:d2t p W q si sj sw sg sh so):d2t (fun _=>True) W q si sj sw sg sh so:=h.keep (aH _) (fun _ _=>trivial) fun _ _ _=>rfl
def QTx(q:Qu):Prop:=∀W v,d5o W q v->nD W->eg 61 #[v] W fun e w'=>e= .returned (.tuple #[S (d8n q),.int .i64 0])/\Bl W w'
theorem ztexts1_any(h:InT w)(hQT:w.hasQ=true->QTx w.query){T:List UInt8}(hT:T=headT w++conflT w)(hl:T.length<=99999990)(W:World)(hp:PartsW p W w s)(hG:nD W):
  eg 57 #[.agg (cWr w s).toArray] W fun e w'=>e= .returned (S T)/\Bl W w':=by
 have hrow:∀r∈w.rows,r≠[]/\r.length<=1000000/\∀x∈r,e0m x/\eH x=true:=by
  rcases h.rows with⟨-,e,-⟩|⟨-,-,h⟩
  ·rw[e];intro r hr;cases hr
  ·exact h
 have hlr:(jR [44,32] (w.rows.map rowT)).length<=99999990:=by
  rcases h.rows with⟨-,e,-⟩|⟨e,-⟩
  ·rw[e];simp[jR]
  ·rw[hT] at hl;unfold headT rowsQT rowsT at hl;rw[e] at hl;simp only[bD,fM,if_false] at hl;omega
 obtain⟨HTR,HCM,HWR⟩:=in_r hrow h.lr hlr hp hG;obtain⟨HF,HNC,HNF,HWH,HN1,HUP0,HCL0,HWU0,HACT⟩:=in_c h hT (jH hl ae) hp hG
 replace HTR:=aB HTR
 replace HCM:=aB HCM
 replace HWR:=aB HWR
 replace HF:=aB HF
 replace HNC:=aB HNC
 replace HNF:=aB HNF
 replace HWH:=aB HWH
 replace HN1:=aB HN1
 replace HUP0:=aB HUP0
 replace HCL0:=aB HCL0
 replace HWU0:=aB HWU0
 replace HACT:=aB HACT
 rcases h.rows with⟨hq,-,-,-⟩|⟨hq,hr0,-⟩
 ·have HQ:Hid (∀v,Bl W v->eg 61 #[.agg (quC w.query s.si s.sj s.sw s.sg s.sh s.so).toArray] v fun e w'=>e= .returned (.tuple #[S (d8n w.query),.int .i64 0])/\Bl v w'):=fun v hb=>hQT hq v _ ⟨_,_,_,_,_,_,rfl,lowQ (hp.query.bl hb)⟩ (hG.bl hb);have hrq:rowsQT w=d8n w.query:=(by unfold rowsQT;rw[if_pos hq]);rw[hrq] at HWH;clear hrow hlr hQT hrq hT hl hp hG h;go_enter func57,ntmps57;go_wp2_with (refine wpList_boxO rfl 46 (.tmp 0) rfl (cWr w s) rfl ?_)
  intro w0 hb0 hX0;have HB0:=aB hb0;have HX0:=aB hX0;have d4:=cell_of (i:=4) hX0 rfl;clear hb0 hX0;go_wp2_with fail;refine(HTR.o _ HB0.o).mono ?_;rintro e w1 ⟨⟨v1,rfl,hs1⟩,hb1⟩;have HB1:=aB (HB0.o.call hb1);have HX1:=aB ((hb1.block _ (lt_of_heap HX0.o)).trans HX0.o);have HS1:=aB hs1;clear hb1 HX0 HB0 hs1 d4;go_wp2_with fail;refine(HCM.o _ _ HS1.o).mono ?_;rintro e w2 ⟨rfl,hb2⟩;have HB2:=aB (HB1.o.call hb2);have HX2:=aB ((hb2.block _ (lt_of_heap HX1.o)).trans HX1.o);clear hb2 HX1 HB1 HS1;go_wp2_with fail;refine(HWR.o _).mono ?_;rintro e w3 ⟨rfl,hb3⟩;have HB3:=aB (HB2.o.call hb3);have HX3:=aB ((hb3.block _ (lt_of_heap HX2.o)).trans HX2.o);have d5:=cell_of (i:=5) HX3.o rfl;clear hb3 HX2 HB2;rw[hq] at d5;clear hq;go_wp2_with (refine wpList_load_midG ar 41 (.tmp 14) rfl W.heap.size 6 rfl (quC w.query s.si s.sj s.sw s.sg s.sh s.so) _ (range_of HX3.o rfl) underlying41 rfl tC ?_)
  refine(HQ.o _ HB3.o).mono ?_;rintro e w4 ⟨rfl,hb4⟩;have HB4:=aB (HB3.o.call hb4);have HX4:=aB ((hb4.block _ (lt_of_heap HX3.o)).trans HX3.o);clear hb4 HX3 HB3 d5;go_wp2_with fail;refine wp_region_noPanic (bM (fun B=>B.heap[W.heap.size]?=some (.cells (cWr w s).toArray 46 (0,0))) ((.take 0 (.take 1 (.take 3 (.take 4 (.take 6 (.one 2 (.one 5 (.one 7 (.one 8 (.take 9 .done))))))))))) af af af (fun _ _ _ _ _ h=>h) (HX4.o) ?_);intro wd HWD hY;refine aI rfl ab cJ ?_;(try simp only[aK,aA,aD,aF])
  refine aI rfl ab (fun wS hSw=>run_load_midO rfl rfl (range_of (i:=1) (xs:=[S w.into.t,S w.into.al]) hSw rfl) underlying26 rfl d7e) ?_;(try simp only[aK,aA,aD,aF])
  iterate 3 (refine aI rfl ab cJ ?_;(try simp only[aK,aA,aD,aF]))
  refine aL rfl (fun K hK=>?_);go_simp;(refine(HF.o _).mono ?_;rintro e w5 ⟨rfl,hb5⟩;have hb:=hb5);go_wp2_with fail;refine hK.o _ _ (ap) ?_;clear hY hK K;intro hY;clear hb;refine aL rfl (fun K hK=>?_);go_simp;(refine(HNC.o _ ((HB4.o.call HWD.o).call hb5)).mono ?_;rintro e w6 ⟨rfl,hb6⟩;have hb:=hb6);go_wp2_with fail;refine hK.o _ _ (ap) ?_;clear hY hK K;intro hY;clear hb;have HEX:=aB hY;refine aL rfl (fun K hK=>?_);go_simp;refine hK.o _ _ (((((Bl.refl _).alloc _).block _ (lt_of_heap hY)).trans hY)) ?_;clear hY hK K;intro hY;refine aL rfl (fun K hK=>?_);go_simp;(refine(HWH.o _).mono ?_;rintro e w7 ⟨rfl,hb7⟩;have hb:=hb7);go_wp2_with fail;refine hK.o _ _ (ap) ?_;clear hY hK K;intro hY;clear hb;refine aI rfl ab cJ ?_;(try simp only[aK,aA,aD,aF])
  refine fO (bF ?_);have HB7:=aB ((((HB4.o.call HWD.o).call hb5).call hb6).call hb7);have HX7:=aB hY;have d31:=cell_of (i:=31) hY rfl;have d30:=cell_of (i:=30) hY rfl;clear HB4 HX4 HWD hb5 hb6 hb7 hY;rcases HACT.o with⟨ha,hT0⟩|ha|ha
  ·rw[ha] at d31;clear ha;go_wp2;go_ret;exact⟨by rw[hT0]<;>rfl,HB7.o⟩
  ·rw[ha] at d31;have HWN:=aB (HN1.o ha);clear ha;go_wp2_with fail;refine(HNF.o _ HB7.o).mono ?_;rintro e w8 ⟨rfl,hb8⟩;have HB8:=aB (HB7.o.call hb8);clear hb8;go_wp2_with fail;refine(HWN.o _).mono ?_;rintro e w9 ⟨rfl,hb9⟩;go_wp2;go_ret;exact⟨rfl,HB8.o.call hb9⟩
  ·rw[ha] at d31;have HUP:=aB (HUP0.o ha);have HCL:=aB (HCL0.o ha);have HWU:=aB (HWU0.o ha);clear ha;go_wp2_with fail;refine wp_region_noPanic (bM (fun B=>B.heap[W.heap.size]?=some (.cells (cWr w s).toArray 46 (0,0))) ((.take 0 (.take 1 (.take 2 (.take 4 (.take 5 (.take 7 (.take 8 (.one 3 (.one 6 (.one 9 (.one 10 (.one 11 (.take 12 .done)))))))))))))) af af af (fun _ _ _ _ _ h=>h) (HX7.o) ?_);intro wd HWD hY;iterate 6 (refine aI rfl ab dl ?_;(try simp only[aK,aA,aD,aF]))
   refine aI rfl ab (fun wS hSw=>run_load_midO rfl rfl (range_of (i:=33) (xs:=qD w.wher s.wher) hSw rfl) underlying38 rfl d4b) ?_;(try simp only[aK,aA,aD,aF])
   refine aL rfl (fun K hK=>?_);go_simp;(refine(HNF.o _ (HB7.o.call HWD.o)).mono ?_;rintro e w8 ⟨rfl,hb8⟩;have hb:=hb8);go_wp2_with fail;refine hK.o _ _ (ap) ?_;clear hY hK K;intro hY;clear hb;refine aL rfl (fun K hK=>?_);go_simp;(refine(HUP.o _ ((HB7.o.call HWD.o).call hb8)).mono ?_;rintro e w9 ⟨rfl,hb9⟩;have hb:=hb9);go_wp2_with fail;refine hK.o _ _ (ap) ?_;clear hY hK K;intro hY;clear hb;refine aL rfl (fun K hK=>?_);go_simp;(refine(HCL.o _ (((HB7.o.call HWD.o).call hb8).call hb9)).mono ?_;rintro e w10 ⟨rfl,hb10⟩;have hb:=hb10);go_wp2_with fail;refine hK.o _ _ (ap) ?_;clear hY hK K;intro hY;clear hb;have HEX:=aB hY;refine aL rfl (fun K hK=>?_);go_simp;refine hK.o _ _ (((((Bl.refl _).alloc _).block _ (lt_of_heap hY)).trans hY)) ?_;clear hY hK K;intro hY;refine aL rfl (fun K hK=>?_);go_simp;(refine(HWU.o _).mono ?_;rintro e w11 ⟨rfl,hb11⟩;have hb:=hb11);go_wp2_with fail;refine hK.o _ _ (ap) ?_;clear hY hK K;intro hY;clear hb;refine aI rfl ab dl ?_;(try simp only[aK,aA,aD,aF])
   refine fO (bF ?_);go_wp2;go_ret;exact⟨rfl,((((HB7.o.call HWD.o).call hb8).call hb9).call hb10).call hb11⟩
 ·have hrq:rowsQT w=rowsV w:=by
   unfold rowsQT rowsV;rw[if_neg (by rw[hq];decide),if_neg hr0]
  rw[hrq] at HWH;clear hrow hlr hQT hr0 hrq hT hl hp hG h;go_enter func57,ntmps57;go_wp2_with (refine wpList_boxO rfl 46 (.tmp 0) rfl (cWr w s) rfl ?_)
  intro w0 hb0 hX0;have HB0:=aB hb0;have HX0:=aB hX0;have d4:=cell_of (i:=4) hX0 rfl;clear hb0 hX0;go_wp2_with fail;refine(HTR.o _ HB0.o).mono ?_;rintro e w1 ⟨⟨v1,rfl,hs1⟩,hb1⟩;have HB1:=aB (HB0.o.call hb1);have HX1:=aB ((hb1.block _ (lt_of_heap HX0.o)).trans HX0.o);have HS1:=aB hs1;clear hb1 HX0 HB0 hs1 d4;go_wp2_with fail;refine(HCM.o _ _ HS1.o).mono ?_;rintro e w2 ⟨rfl,hb2⟩;have HB2:=aB (HB1.o.call hb2);have HX2:=aB ((hb2.block _ (lt_of_heap HX1.o)).trans HX1.o);clear hb2 HX1 HB1 HS1;go_wp2_with fail;refine(HWR.o _).mono ?_;rintro e w3 ⟨rfl,hb3⟩;have HB3:=aB (HB2.o.call hb3);have HX3:=aB ((hb3.block _ (lt_of_heap HX2.o)).trans HX2.o);have d5:=cell_of (i:=5) HX3.o rfl;clear hb3 HX2 HB2;rw[hq] at d5;clear hq;have HB4:=HB3;have HX4:=HX3;clear HX3 HB3;go_wp2_with fail;refine wp_region_noPanic (bM (fun B=>B.heap[W.heap.size]?=some (.cells (cWr w s).toArray 46 (0,0))) ((.take 0 (.take 1 (.take 3 (.take 4 (.take 6 (.one 2 (.one 5 (.one 7 (.one 8 (.take 9 .done))))))))))) af af af (fun _ _ _ _ _ h=>h) (HX4.o) ?_);intro wd HWD hY;refine aI rfl ab cJ ?_;(try simp only[aK,aA,aD,aF])
  refine aI rfl ab (fun wS hSw=>run_load_midO rfl rfl (range_of (i:=1) (xs:=[S w.into.t,S w.into.al]) hSw rfl) underlying26 rfl d7e) ?_;(try simp only[aK,aA,aD,aF])
  iterate 3 (refine aI rfl ab cJ ?_;(try simp only[aK,aA,aD,aF]))
  refine aL rfl (fun K hK=>?_);go_simp;(refine(HF.o _).mono ?_;rintro e w5 ⟨rfl,hb5⟩;have hb:=hb5);go_wp2_with fail;refine hK.o _ _ (ap) ?_;clear hY hK K;intro hY;clear hb;refine aL rfl (fun K hK=>?_);go_simp;(refine(HNC.o _ ((HB4.o.call HWD.o).call hb5)).mono ?_;rintro e w6 ⟨rfl,hb6⟩;have hb:=hb6);go_wp2_with fail;refine hK.o _ _ (ap) ?_;clear hY hK K;intro hY;clear hb;have HEX:=aB hY;refine aL rfl (fun K hK=>?_);go_simp;refine hK.o _ _ (((((Bl.refl _).alloc _).block _ (lt_of_heap hY)).trans hY)) ?_;clear hY hK K;intro hY;refine aL rfl (fun K hK=>?_);go_simp;(refine(HWH.o _).mono ?_;rintro e w7 ⟨rfl,hb7⟩;have hb:=hb7);go_wp2_with fail;refine hK.o _ _ (ap) ?_;clear hY hK K;intro hY;clear hb;refine aI rfl ab cJ ?_;(try simp only[aK,aA,aD,aF])
  refine fO (bF ?_);have HB7:=aB ((((HB4.o.call HWD.o).call hb5).call hb6).call hb7);have HX7:=aB hY;have d31:=cell_of (i:=31) hY rfl;have d30:=cell_of (i:=30) hY rfl;clear HB4 HX4 HWD hb5 hb6 hb7 hY;rcases HACT.o with⟨ha,hT0⟩|ha|ha
  ·rw[ha] at d31;clear ha;go_wp2;go_ret;exact⟨by rw[hT0]<;>rfl,HB7.o⟩
  ·rw[ha] at d31;have HWN:=aB (HN1.o ha);clear ha;go_wp2_with fail;refine(HNF.o _ HB7.o).mono ?_;rintro e w8 ⟨rfl,hb8⟩;have HB8:=aB (HB7.o.call hb8);clear hb8;go_wp2_with fail;refine(HWN.o _).mono ?_;rintro e w9 ⟨rfl,hb9⟩;go_wp2;go_ret;exact⟨rfl,HB8.o.call hb9⟩
  ·rw[ha] at d31;have HUP:=aB (HUP0.o ha);have HCL:=aB (HCL0.o ha);have HWU:=aB (HWU0.o ha);clear ha;go_wp2_with fail;refine wp_region_noPanic (bM (fun B=>B.heap[W.heap.size]?=some (.cells (cWr w s).toArray 46 (0,0))) ((.take 0 (.take 1 (.take 2 (.take 4 (.take 5 (.take 7 (.take 8 (.one 3 (.one 6 (.one 9 (.one 10 (.one 11 (.take 12 .done)))))))))))))) af af af (fun _ _ _ _ _ h=>h) (HX7.o) ?_);intro wd HWD hY;iterate 6 (refine aI rfl ab dl ?_;(try simp only[aK,aA,aD,aF]))
   refine aI rfl ab (fun wS hSw=>run_load_midO rfl rfl (range_of (i:=33) (xs:=qD w.wher s.wher) hSw rfl) underlying38 rfl d4b) ?_;(try simp only[aK,aA,aD,aF])
   refine aL rfl (fun K hK=>?_);go_simp;(refine(HNF.o _ (HB7.o.call HWD.o)).mono ?_;rintro e w8 ⟨rfl,hb8⟩;have hb:=hb8);go_wp2_with fail;refine hK.o _ _ (ap) ?_;clear hY hK K;intro hY;clear hb;refine aL rfl (fun K hK=>?_);go_simp;(refine(HUP.o _ ((HB7.o.call HWD.o).call hb8)).mono ?_;rintro e w9 ⟨rfl,hb9⟩;have hb:=hb9);go_wp2_with fail;refine hK.o _ _ (ap) ?_;clear hY hK K;intro hY;clear hb;refine aL rfl (fun K hK=>?_);go_simp;(refine(HCL.o _ (((HB7.o.call HWD.o).call hb8).call hb9)).mono ?_;rintro e w10 ⟨rfl,hb10⟩;have hb:=hb10);go_wp2_with fail;refine hK.o _ _ (ap) ?_;clear hY hK K;intro hY;clear hb;have HEX:=aB hY;refine aL rfl (fun K hK=>?_);go_simp;refine hK.o _ _ (((((Bl.refl _).alloc _).block _ (lt_of_heap hY)).trans hY)) ?_;clear hY hK K;intro hY;refine aL rfl (fun K hK=>?_);go_simp;(refine(HWU.o _).mono ?_;rintro e w11 ⟨rfl,hb11⟩;have hb:=hb11);go_wp2_with fail;refine hK.o _ _ (ap) ?_;clear hY hK K;intro hY;clear hb;refine aI rfl ab dl ?_;(try simp only[aK,aA,aD,aF])
   refine fO (bF ?_);go_wp2;go_ret;exact⟨rfl,((((HB7.o.call HWD.o).call hb8).call hb9).call hb10).call hb11⟩
end
end
end Go.Proofs.YtohlomdapelgeaaGreatDoor
