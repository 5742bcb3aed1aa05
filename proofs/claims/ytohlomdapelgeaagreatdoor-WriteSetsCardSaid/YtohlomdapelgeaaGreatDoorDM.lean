/- Texts TE. -/
import Derived.Test.YtohlomdapelgeaaGreatDoorDL
import Derived.Test.YtohlomdapelgeaaGreatDoorCK
namespace Go.Proofs.YtohlomdapelgeaaGreatDoor
open _root_.Go.Proofs.Tryz
open Go.RowKit
open _root_.Go.Act renaming put->aK
open _root_.Go.Lib renaming hid->aB
open _root_.List renaming setIfInBounds_toArray->aA,set_cons_succ->aF,set_cons_zero->aD
open NoPanic renaming normal->bF
open _root_.Go.Region renaming wanted->jG
set_option maxRecDepth 100000
set_option maxHeartbeats 4000000
section
abbrev nilV:Value:= .slice none 0 0
theorem find_no{k:Int}{f1 f2 f3 f4:FuncId}(h1:k≠1)(h2:k≠2)(h3:k≠3)(h4:k≠4):Instr.findNow (.int .i64) (.int .i64 k) [fnE 1 f1 0,fnE 2 f2 1,fnE 3 f3 2,fnE 4 f4 3] 0=some none:=by
 have e1:(k==1)=false:=cC;have e2:(k==2)=false:=cH;have e3:(k==3)=false:=ck;have e4:(k==4)=false:=cm;simp only[Instr.findNow,Instr.sameNow,if_pos,e1,e2,e3,e4]
theorem zero_isWhen(w:World):(zeroValue 165).run prog w= .ok .nilFunc w:=by kernel_rfl
theorem zero_isWrite(w:World):(zeroValue 54).run prog w= .ok .nilFunc w:=by kernel_rfl
def zactFn(k:Int):FuncId:=if k=1 then 219 else if k=2 then 220 else if k=3 then 221 else 222
theorem enters_zactFn(k:Int)(args:Array Value)(w:World):(callFunc (zactFn k) args).run prog w= .ok (.enter (zactFn k) args) w:=by
 unfold zactFn;split
 ·simp[go_sem]
 split
 ·simp[go_sem]
 split<;>simp[go_sem]
theorem zact_look{w:World}{r:Nat}{k:Int}(hk:k=1\/k=2\/k=3\/k=4)(hb:w.heap[r]?=some (.map zactsAll 4)):(Instr.lookup 214 (.map (some r)) (.int .i64 k) true).run prog w= .ok (.tuple #[.func (.func (zactFn k)) #[] #[],.bool true]) w:=by
 rcases hk with rfl|rfl|rfl|rfl
 ·exact run_lookup_ok underlying214 underlying42 hb (i:=0) rfl
 ·exact run_lookup_ok underlying214 underlying42 hb (i:=1) rfl
 ·exact run_lookup_ok underlying214 underlying42 hb (i:=2) rfl
 ·exact run_lookup_ok underlying214 underlying42 hb (i:=3) rfl
theorem zact_none{w:World}{r:Nat}{k:Int}(h1:k≠1)(h2:k≠2)(h3:k≠3)(h4:k≠4)(hb:w.heap[r]?=some (.map zactsAll 4)):(Instr.lookup 214 (.map (some r)) (.int .i64 k) true).run prog w= .ok (.tuple #[.nilFunc,.bool false]) w:=
 run_lookup_no underlying214 underlying42 hb (find_no h1 h2 h3 h4) (zero_isWhen w)
theorem zactFn_any{p:Nat->Prop}{x:Wn}(h:WnSz x)(hk:x.act=1\/x.act=2\/x.act=3\/x.act=4){s ss sc sv:Value}(W:World)(hrs:RowsG gSt p W ss x.sets)(hrc:RowsG gStr p W sc x.cols)(hrv:bG p W sv x.vals)(hG:nD W):
  eg (zactFn x.act) #[.agg (cells13 x s ss sc sv).toArray] W fun e w'=>e= .returned (.bool (actB x.act x))/\Bl W w':=by
 obtain⟨ta,tc,rfl,-⟩:=hrs.shape;obtain⟨ca,cc,rfl,-⟩:=hrc.shape;obtain⟨va,vc,rfl⟩:=hrv.shape;obtain⟨m,c,act,sets,cols,vals⟩:=x;obtain⟨hco,hst,hcl,hva,ls,lc,lv⟩:=h;dsimp only at *;rcases hk with rfl|rfl|rfl|rfl
 ·exact zacts1_any ls lc lv
 ·have h:=zacts2_any (m:=m) (c:=c) (act:=2) (cols:=cols) (vals:=vals) (s:=s) (ca:=ca) (va:=va) (cc:=cc) (vc:=vc) ls lc lv hst hrs hG;rw[<-Bool.and_assoc] at h;exact h
 ·have h:=zacts3_any (W:=W) (m:=m) (c:=c) (act:=3) (sets:=sets) (cols:=cols) (vals:=vals) (s:=s) (ta:=ta) (ca:=ca) (va:=va) (tc:=tc) (cc:=cc) (vc:=vc) ls lc lv;rw[<-Bool.and_assoc,<-Bool.and_assoc] at h;exact h
 ·exact zacts4_any ls lc lv hcl hva hrc hrv hG
theorem zwhenB_any{p:Nat->Prop}{x:Wn}(h:WnSz x){cs:List Value}(W:World)(hc:Shp.lies gWn p W x cs)(hG:nD W):eg 110 #[.agg cs.toArray] W fun e w'=>e= .returned (.bool (rightWn x))/\Bl W w':=by
 obtain⟨s,ss,sc,sv,rfl,hr,hrs,hrc,hrv⟩:=hc;rw[right_act];by_cases hk:x.act=1\/x.act=2\/x.act=3\/x.act=4
 ·have HM1:Hid (∀w,Bl W w->eg 102 #[.agg (qD x.cond s).toArray] w fun e w'=>e= .returned (.bool (mayB x.cond))/\Bl w w'):=fun w hb=>zmay_any h.cond w _ ⟨s,rfl,hr.reads.bl hb⟩ (hG.bl hb);have HF:Hid (∀w,Bl W w->eg (zactFn x.act) #[.agg (cells13 x s ss sc sv).toArray] w fun e w'=>e= .returned (.bool (actB x.act x))/\Bl w w'):=fun w hb=>zactFn_any h hk w (hrs.bl hb) (hrc.bl hb) (hrv.keep (fun _ h=>h) fun b _ hl=>hb.block b hl) (hG.bl hb);have HLK:Hid (∀(v:World) (r:Nat),v.heap[r]?=some (.map zactsAll 4)->(Instr.lookup 214 (.map (some r)) (.int .i64 x.act) true).run prog v= .ok (.tuple #[.func (.func (zactFn x.act)) #[] #[],.bool true]) v):=fun v r hb=>zact_look hk hb;have hen:=enters_zactFn x.act;generalize mayB x.cond=r1 at *;generalize actB x.act x=r2 at *;clear h hk hr hrs hrc hrv hG;go_enter func110,ntmps110;go_wp2_with (refine wpList_boxO rfl 87 (.tmp 0) rfl (cells13 x s ss sc sv) rfl ?_)
  intro w0 hb0 hX0;have HB0:=aB hb0;have HX0:=aB hX0;clear hb0 hX0;go_wp2_with fail;refine wp_region_noPanic (bM (fun B=>B.heap[W.heap.size]?=some (.cells (cells13 x s ss sc sv).toArray 87 (0,0))) ((.take 1 (.take 2 (.one 0 (.one 3 (.take 4 (.take 5 (.take 6 (.take 7 (.take 8 .done)))))))))) af af af (fun _ _ _ _ _ h=>h) (HX0.o) ?_);intro wd HWD hY;iterate 2 (refine aI rfl ab dm ?_;(try simp only[aK,aA,aD,aF]))
  refine aL rfl (fun K hK=>?_);go_simp;(refine(zacts_any _).mono ?_;rintro e w2 ⟨rfl,hb2,hM⟩;have hb:=hb2);go_wp2_with fail;refine hK.o _ _ (((hb.block _ (lt_of_heap hY)).trans hY)) ?_;clear hY hK K;intro hY;clear hb;have HM:=aB hM;have hlook:=HLK.o _ _ HM.o;refine aL rfl (fun K hK=>?_);go_simp;refine hK.o _ _ (hY) ?_;clear hY hK K;intro hY;iterate 5 (refine aI rfl ab dm ?_;(try simp only[aK,aA,aD,aF]))
  refine fO (bF ?_);have HB2:=aB ((HB0.o.call HWD.o).call hb2);have HX2:=aB hY;clear hY hM HM hb2 HWD HX0 HB0;go_wp2_with (refine wpList_load_midG ar 38 (.tmp 14) rfl W.heap.size 1 rfl (qD x.cond s) _ (range_of HX2.o rfl) underlying38 rfl d4b ?_)
  refine(HM1.o _ HB2.o).mono ?_;rintro e w3 ⟨rfl,hb3⟩;have HB3:=aB (HB2.o.call hb3);have HX3:=aB ((hb3.block _ (lt_of_heap HX2.o)).trans HX2.o);clear hb3 HX2 HB2;cases r1
  ·go_wp2;go_ret;exact⟨rfl,HB3.o⟩
  ·skip
   go_wp2_with (refine wpList_load_midG ar 87 (.tmp 1) rfl W.heap.size 0 rfl (cells13 x s ss sc sv) _ (range_of HX3.o rfl) underlying87 rfl whenInfo ?_)
   refine(HF.o _ HB3.o).mono ?_;rintro e w4 ⟨rfl,hb4⟩;go_wp2;go_ret;exact⟨rfl,HB3.o.call hb4⟩
 ·have hn:x.act≠1/\x.act≠2/\x.act≠3/\x.act≠4:=⟨fun e=>hk (.inl e),fun e=>hk (.inr (.inl e)),fun e=>hk (.inr (.inr (.inl e))),fun e=>hk (.inr (.inr (.inr e)))⟩
  obtain⟨n1,n2,n3,n4⟩:=hn;have hf:(mayB x.cond&&actB x.act x)=false:=by
   unfold actB;rw[if_neg n1,if_neg n2,if_neg n3,if_neg n4,Bool.and_false]
  rw[hf];have HLK:Hid (∀(v:World) (r:Nat),v.heap[r]?=some (.map zactsAll 4)->(Instr.lookup 214 (.map (some r)) (.int .i64 x.act) true).run prog v= .ok (.tuple #[.nilFunc,.bool false]) v):=fun v r hb=>zact_none n1 n2 n3 n4 hb;clear h hk hr hrs hrc hrv hG n1 n2 n3 n4 hf;go_enter func110,ntmps110;go_wp2_with (refine wpList_boxO rfl 87 (.tmp 0) rfl (cells13 x s ss sc sv) rfl ?_)
  intro w0 hb0 hX0;have HB0:=aB hb0;have HX0:=aB hX0;clear hb0 hX0;go_wp2_with fail;refine wp_region_noPanic (bM (fun B=>B.heap[W.heap.size]?=some (.cells (cells13 x s ss sc sv).toArray 87 (0,0))) ((.take 1 (.take 2 (.one 0 (.one 3 (.take 4 (.take 5 (.take 6 (.take 7 (.take 8 .done)))))))))) af af af (fun _ _ _ _ _ h=>h) (HX0.o) ?_);intro wd HWD hY;iterate 2 (refine aI rfl ab dm ?_;(try simp only[aK,aA,aD,aF]))
  refine aL rfl (fun K hK=>?_);go_simp;(refine(zacts_any _).mono ?_;rintro e w2 ⟨rfl,hb2,hM⟩;have hb:=hb2);go_wp2_with fail;refine hK.o _ _ (((hb.block _ (lt_of_heap hY)).trans hY)) ?_;clear hY hK K;intro hY;clear hb;have HM:=aB hM;have hlook:=HLK.o _ _ HM.o;refine aL rfl (fun K hK=>?_);go_simp;refine hK.o _ _ (hY) ?_;clear hY hK K;intro hY;iterate 5 (refine aI rfl ab dm ?_;(try simp only[aK,aA,aD,aF]))
  refine fO (bF ?_);have HB2:=aB ((HB0.o.call HWD.o).call hb2);have HX2:=aB hY;clear hY hM HM hb2 HWD HX0 HB0;go_wp2;go_ret;exact⟨rfl,HB2.o⟩
structure WrSz(w:Wr):Prop where
 into:e7e w.into
 using':e7e w.using'
 cols:∀x∈w.cols,d4d x
 conf:∀x∈w.conf,d4d x
 rows:∀r∈w.rows,r.length<=1000000/\∀x∈r,e0m x
 query:e1a w.query
 small:d9u 1000000 w.query
 sets:∀x∈w.sets,StSz x
 wher:e0m w.wher
 on:e0m w.on
 whens:∀x∈w.whens,WnSz x
 ret:∀x∈w.ret,e7f x
 retT:d4l w.ret=true->(d5q w.ret).length<=100000000
 lc:w.cols.length<=1000000
 lf:w.conf.length<=1000000
 lr:w.rows.length<=1000000
 ls:w.sets.length<=1000000
 lw:w.whens.length<=1000000
 lt:w.ret.length<=1000000
section
variable {w:Wr} {p:Nat->Prop} {s:SlW}
theorem zkinds2_any(h:WrSz w)(W:World)(hp:PartsW p W w s)(hG:nD W):eg 105 #[.agg (cWr w s).toArray] W fun e w'=>e= .returned (.bool (setsB w.sets&&mayB w.wher))/\Bl W w':=by
 have H1:Hid (∀v,Bl W v->eg 101 #[s.sets] v fun e w'=>e= .returned (.bool (setsB w.sets))/\Bl v w'):=fun v hb=>zsetsB_any h.sets h.ls v _ (hp.sets.bl hb) (hG.bl hb);have H2:Hid (∀v,Bl W v->eg 102 #[.agg (qD w.wher s.wher).toArray] v fun e w'=>e= .returned (.bool (mayB w.wher))/\Bl v w'):=fun v hb=>zmay_any h.wher v _ ⟨_,rfl,hp.wher.reads.bl hb⟩ (hG.bl hb);generalize setsB w.sets=r1 at *;generalize mayB w.wher=r2 at *;clear h hp hG;go_enter func105,ntmps105;go_wp2_with (refine wpList_boxO rfl 46 (.tmp 0) rfl (cWr w s) rfl ?_)
 intro w0 hb0 hX0;have HB0:=aB hb0;have HX0:=aB hX0;clear hb0 hX0;have d32:=cell_of (i:=32) HX0.o rfl;go_wp2_with fail;refine(H1.o _ HB0.o).mono ?_;rintro e w1 ⟨rfl,hb1⟩;have HB1:=aB (HB0.o.call hb1);have HX1:=aB ((hb1.block _ (lt_of_heap HX0.o)).trans HX0.o);clear hb1 HX0 HB0 d32;cases r1
 ·go_wp2;go_ret;exact⟨rfl,HB1.o⟩
 ·skip
  go_wp2_with (refine wpList_load_midG ar 38 (.tmp 7) rfl W.heap.size 33 rfl (qD w.wher s.wher) _ (range_of HX1.o rfl) underlying38 rfl d4b ?_)
  refine(H2.o _ HB1.o).mono ?_;rintro e w2 ⟨rfl,hb2⟩;go_wp2;go_ret;exact⟨rfl,HB1.o.call hb2⟩
theorem zkinds3_any(h:WrSz w)(W:World)(hp:PartsW p W w s)(hG:nD W):eg 106 #[.agg (cWr w s).toArray] W fun e w'=>e= .returned (.bool (mayB w.wher))/\Bl W w':=by
 have H2:Hid (∀v,Bl W v->eg 102 #[.agg (qD w.wher s.wher).toArray] v fun e w'=>e= .returned (.bool (mayB w.wher))/\Bl v w'):=fun v hb=>zmay_any h.wher v _ ⟨_,rfl,hp.wher.reads.bl hb⟩ (hG.bl hb);generalize mayB w.wher=r2 at *;clear h hp hG;go_enter func106,ntmps106;go_wp2_with (refine wpList_boxO rfl 46 (.tmp 0) rfl (cWr w s) rfl ?_)
 intro w0 hb0 hX0;have HB0:=aB hb0;have HX0:=aB hX0;clear hb0 hX0;go_wp2_with (refine wpList_load_midG ar 38 (.tmp 3) rfl W.heap.size 33 rfl (qD w.wher s.wher) _ (range_of HX0.o rfl) underlying38 rfl d4b ?_)
 refine(H2.o _ HB0.o).mono ?_;rintro e w2 ⟨rfl,hb2⟩;go_wp2;go_ret;exact⟨rfl,HB0.o.call hb2⟩
theorem zkinds4_any(h:WrSz w)(W:World)(hp:PartsW p W w s)(hG:nD W):eg 107 #[.agg (cWr w s).toArray] W fun e w'=>e= .returned (.bool (d4c w.using'&&eH w.on&&(decide (1<=w.whens.length)&&decide (w.whens.length<=8)&&w.whens.all rightWn)))/\Bl W w':=by
 have H1:Hid (∀v,Bl W v->eg 55 #[.agg #[S w.using'.t,S w.using'.al]] v fun e w'=>e= .returned (.bool (d4c w.using'))/\Bl v w'):=fun v hb=>zsrc_any h.using' v (hG.bl hb);have H2:Hid (∀v,Bl W v->eg 108 #[.agg (qD w.on s.on).toArray] v fun e w'=>e= .returned (.bool (eH w.on))/\Bl v w'):=fun v hb=>zright_any h.on v _ ⟨_,rfl,hp.on.reads.bl hb⟩ (hG.bl hb);have H3:Hid (∀v,Bl W v->eg 109 #[s.whens,.int .i64 1,.int .i64 8,.func (.func 110) #[] #[]] v fun e w'=>e= .returned (.bool (decide (1<=w.whens.length)&&decide (w.whens.length<=8)&&w.whens.all rightWn))/\Bl v w'):=fun v hb=>by
  have h:=zeachWhen_any (pB:=rightWn) enters_zwhenB h.lw (hp.whens.bl hb) 1 8 fun y hy W' cs hb' hl=>zwhenB_any (h.whens y hy) W' hl (hG.bl (hb.call hb'));rw[show((8:Int))=((8:Nat):Int) from rfl,show((1:Int))=((1:Nat):Int) from rfl,dec_int,dec_int] at h;exact h
 generalize d4c w.using'=r1 at *;generalize eH w.on=r2 at *;generalize (decide (1<=w.whens.length)&&decide (w.whens.length<=8)&&w.whens.all rightWn)=r3 at *;clear h hp hG;go_enter func107,ntmps107;go_wp2_with (refine wpList_boxO rfl 46 (.tmp 0) rfl (cWr w s) rfl ?_)
 intro w0 hb0 hX0;have HB0:=aB hb0;have HX0:=aB hX0;clear hb0 hX0;go_wp2_with (refine wpList_load_midG ar 26 (.tmp 3) rfl W.heap.size 41 rfl [S w.using'.t,S w.using'.al] _ (range_of HX0.o rfl) underlying26 rfl d7e ?_)
 refine(H1.o _ HB0.o).mono ?_;rintro e w1 ⟨rfl,hb1⟩;have HB1:=aB (HB0.o.call hb1);have HX1:=aB ((hb1.block _ (lt_of_heap HX0.o)).trans HX0.o);clear hb1 HX0 HB0;cases r1
 ·go_wp2;go_ret;exact⟨rfl,HB1.o⟩
 ·skip
  go_wp2_with (refine wpList_load_midG ar 38 (.tmp 7) rfl W.heap.size 43 rfl (qD w.on s.on) _ (range_of HX1.o rfl) underlying38 rfl d4b ?_)
  refine(H2.o _ HB1.o).mono ?_;rintro e w2 ⟨rfl,hb2⟩;have HB2:=aB (HB1.o.call hb2);have HX2:=aB ((hb2.block _ (lt_of_heap HX1.o)).trans HX1.o);have d51:=cell_of (i:=51) HX2.o rfl;clear hb2 HX1 HB1;cases r2
  ·go_wp2;go_ret;exact⟨rfl,HB2.o⟩
  ·go_wp2_with fail;refine(H3.o _ HB2.o).mono ?_;rintro e w3 ⟨rfl,hb3⟩;go_wp2;go_ret;exact⟨rfl,HB2.o.call hb3⟩
end
end
end Go.Proofs.YtohlomdapelgeaaGreatDoor
