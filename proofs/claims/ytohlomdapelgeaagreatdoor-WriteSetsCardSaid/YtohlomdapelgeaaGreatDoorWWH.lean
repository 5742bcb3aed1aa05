/- Texts beside the shared ones. -/
import Derived.Test.YtohlomdapelgeaaGreatDoorWX0
import Derived.Test.YtohlomdapelgeaaGreatDoorWWG
namespace Go.Proofs.YtohlomdapelgeaaGreatDoor
open _root_.Go.Proofs.Tryz
open Go.RowKit
open _root_.Go.Lib renaming hid->aB
open _root_.List renaming cons_append->bE,getElem_mem->dS,nil_append->cB
open _root_.Nat renaming le_refl->aH,zero_le->dL
open _root_.Go.Region renaming wanted->jG
set_option maxRecDepth 100000
set_option maxHeartbeats 16000000
section
structure FewW(w:Wr):Prop where
 sets:fewL setF w.sets=true
 whens:w.whens.length<=10
 each:∀x∈w.whens,fewL setF x.sets=true
abbrev FewP(W:World)(w:Wr):Ending->World->Prop:=fun e w'=>(∃b:Bool,e= .returned (.bool b)/\(b=true->FewW w))/\Bl W w'
theorem rowsg_at{α:Type}{F:Shp α}{p:Nat->Prop}{W:World}{a:Option Addr}{n cap:Nat}{l:List α}(h:RowsG F p W (.slice a n cap) l):∀j,(hj:j<l.length)->∃b off cs,a=some ⟨b,off,none⟩/\b<W.heap.size/\d2k W b (off+j * F.n) cs/\F.lies p W l[j] cs:=fun j hj=>by
 obtain⟨a',cap',e,h⟩:=h.shape;obtain⟨b,off,cs,ea,-,hb,hc,hr⟩:=h j hj;injection e with e1 e2 e3;exact⟨b,off,cs,e1.trans ea,hb,hc,hr⟩
section
variable {w:Wr} {p:Nat->Prop} {s:SlW}
theorem few18_any(hL:LenW w)(W:World)(hp:PartsW p W w s)(hq:∀B,Bl W B->d5o B w.query (.agg (quC w.query s.si s.sj s.sw s.sg s.sh s.so).toArray)):Calls Tryz.prog 11 #[.agg (cWr w s).toArray] W (FewP W w):=by
 have HN1:=aB (fun(B:World) (hb:Bl W B)=>names18_any hL.cols (hp.cols.bl hb));have HN2:=aB (fun(B:World) (hb:Bl W B)=>names18_any hL.conf (hp.conf.bl hb));have HS:=aB (fun(B:World) (hb:Bl W B)=>sets18_any hL.sets (hp.sets.bl hb));have HI:=aB (fun(B:World) (hb:Bl W B)=>items18_any hL.ret (hp.ret.bl hb));have HV1:=aB (fun(B:World) (hb:Bl W B)=>vast18 w.wher B (.agg (qD w.wher s.wher).toArray) ⟨_,rfl,hp.wher.reads.bl hb⟩);have HV2:=aB (fun(B:World) (hb:Bl W B)=>vast18 w.on B (.agg (qD w.on s.on).toArray) ⟨_,rfl,hp.on.reads.bl hb⟩);have HQ:=aB (fun(B:World) (hb:Bl W B)=>query18_any hL.items hL.joins hL.group hL.orders B (hq B hb));obtain⟨ra,rc,er,-⟩:=id hp.rows.shape;obtain⟨na,nc,en,-⟩:=id hp.whens.shape;have HER:=aB er;have HEN:=aB en;have HRW:=aB (rowsg_at (er▸hp.rows));have HWN:=aB (rowsg_at (en▸hp.whens));have HL:=aB hL;have hl1:=hL.rows;have hl2:=hL.whens;have HSF:Hid (∃b3,fewL setF w.sets=b3):=⟨_,rfl⟩
 obtain⟨b3,hb3⟩:=HSF.o;have HB3:=aB hb3;rw[hb3] at HS;clear hp hL hq er en hb3 HSF;generalize partsV 200 30 w.wher=n1 at *;generalize partsV 200 30 w.on=n2 at *;generalize fewL nameF w.cols=b1 at *;generalize fewL nameF w.conf=b2 at *;generalize fewL itF w.ret=b4 at *;obtain⟨z1,hz1⟩:∃z,IntKind.i64.wrap ((w.into.t.length:Int)+(w.into.al.length:Int))=z:=⟨_,rfl⟩
 obtain⟨z2,hz2⟩:∃z,IntKind.i64.wrap (z1+(w.using'.t.length:Int))=z:=⟨_,rfl⟩
 obtain⟨z3,hz3⟩:∃z,IntKind.i64.wrap (z2+(w.using'.al.length:Int))=z:=⟨_,rfl⟩
 go_enter func11,ntmps11;simp only[List.append_eq,bE,cB];go_wp2_with (refine wpList_boxO rfl 46 (.tmp 0) rfl (cWr w s) rfl ?_)
 intro w0 hb0 hX0;have HB:=aB hb0;have HX:=aB hX0;clear hb0 hX0;have c:=cell_of (i:=3) HX.o rfl;go_wp2_with fail;refine(HN1.o _ HB.o).mono ?_;rintro e w9 ⟨rfl,hb9⟩;clear c
 replace HX:=aB (keep_b HX.o hb9)
 replace HB:=aB (HB.o.call hb9)
 clear hb9;cases b1
 ·skip
  go_wp2;go_ret;exact⟨⟨false,rfl,fun h=>aq⟩,HB.o⟩
 have c:=cell_of (i:=30) HX.o rfl;go_wp2_with fail;refine(HN2.o _ HB.o).mono ?_;rintro e w9 ⟨rfl,hb9⟩;clear c
 replace HX:=aB (keep_b HX.o hb9)
 replace HB:=aB (HB.o.call hb9)
 clear hb9;cases b2
 ·skip
  go_wp2;go_ret;exact⟨⟨false,rfl,fun h=>aq⟩,HB.o⟩
 have c:=cell_of (i:=32) HX.o rfl;go_wp2_with fail;refine(HS.o _ HB.o).mono ?_;rintro e w9 ⟨rfl,hb9⟩;clear c
 replace HX:=aB (keep_b HX.o hb9)
 replace HB:=aB (HB.o.call hb9)
 clear hb9;cases b3
 ·skip
  go_wp2;go_ret;exact⟨⟨false,rfl,fun h=>aq⟩,HB.o⟩
 have c:=cell_of (i:=52) HX.o rfl;go_wp2_with fail;refine(HI.o _ HB.o).mono ?_;rintro e w9 ⟨rfl,hb9⟩;clear c
 replace HX:=aB (keep_b HX.o hb9)
 replace HB:=aB (HB.o.call hb9)
 clear hb9;cases b4
 ·skip
  go_wp2;go_ret;exact⟨⟨false,rfl,fun h=>aq⟩,HB.o⟩
 have c:=cell_of (i:=4) HX.o rfl;rw[HER.o] at c;by_cases h2:70<w.rows.length
 ·have h2':(70:Int)<(w.rows.length:Int):=by omega
  clear h2;go_wp2;go_ret;exact⟨⟨false,rfl,fun h=>aq⟩,HB.o⟩
 have h2':decide ((70:Int)<(w.rows.length:Int))=false:=decide_eq_false aE;clear h2;have d:=cell_of (i:=51) HX.o rfl;rw[HEN.o] at d;by_cases h3:10<w.whens.length
 ·have h3':(10:Int)<(w.whens.length:Int):=by omega
  clear h3;go_wp2;go_ret;exact⟨⟨false,rfl,fun h=>aq⟩,HB.o⟩
 have h3':decide ((10:Int)<(w.whens.length:Int))=false:=decide_eq_false aE;have HW10:Hid (w.whens.length<=10):=(by show _<=_;omega);clear h3;go_wp2_with (refine wpList_load_midG ar 38 (.tmp 41) rfl W.heap.size 33 rfl (qD w.wher s.wher) _ (range_of HX.o rfl) Tryz.underlying38 rfl d4b ?_)
 refine(HV1.o _ HB.o).mono ?_;rintro e w9 ⟨rfl,hb9⟩;clear c d
 replace HX:=aB (keep_b HX.o hb9)
 replace HB:=aB (HB.o.call hb9)
 clear hb9;by_cases h4:30<n1
 ·have h4':(30:Int)<(n1:Int):=by omega
  clear h4;go_wp2;go_ret;exact⟨⟨false,rfl,fun h=>aq⟩,HB.o⟩
 have h4':decide ((30:Int)<(n1:Int))=false:=decide_eq_false aE;clear h4;go_wp2_with (refine wpList_load_midG ar 38 (.tmp 47) rfl W.heap.size 43 rfl (qD w.on s.on) _ (range_of HX.o rfl) Tryz.underlying38 rfl d4b ?_)
 refine(HV2.o _ HB.o).mono ?_;rintro e w9 ⟨rfl,hb9⟩
 replace HX:=aB (keep_b HX.o hb9)
 replace HB:=aB (HB.o.call hb9)
 clear hb9;by_cases h5:30<n2
 ·have h5':(30:Int)<(n2:Int):=by omega
  clear h5;go_wp2;go_ret;exact⟨⟨false,rfl,fun h=>aq⟩,HB.o⟩
 have h5':decide ((30:Int)<(n2:Int))=false:=decide_eq_false aE;clear h5;go_wp2_with (refine wpList_load_midG ar 41 (.tmp 53) rfl W.heap.size 6 rfl (quC w.query s.si s.sj s.sw s.sg s.sh s.so) _ (range_of HX.o rfl) Tryz.underlying41 rfl tC ?_)
 refine(HQ.o _ HB.o).mono ?_;rintro e w9 ⟨⟨bq,rfl⟩,hb9⟩
 replace HX:=aB (keep_b HX.o hb9)
 replace HB:=aB (HB.o.call hb9)
 clear hb9;cases bq
 ·skip
  go_wp2;go_ret;exact⟨⟨false,rfl,fun h=>aq⟩,HB.o⟩
 have c1:=cell_of (i:=1) HX.o rfl;have c2:=cell_of (i:=2) HX.o rfl;have c41:=cell_of (i:=41) HX.o rfl;have c42:=cell_of (i:=42) HX.o rfl;by_cases h6:200<z3
 ·skip
  go_wp2;go_ret;exact⟨⟨false,rfl,fun h=>aq⟩,HB.o⟩
 replace h6:decide (200<z3)=false:=decide_eq_false h6
 go_wp2_with fail;clear c1 c2 c41 c42 h2' h3' h4' h5' h6 hz1 hz2 hz3;go_loopw [3] (fun i wr=>∃j:Nat,j<=w.rows.length/\i= .int .i64 (j:Int)/\Hid (Bl W wr)/\Hid (wr.heap[W.heap.size]?=some (.cells (cWr w s).toArray 46 (0,0)))) (fun i _=>w.rows.length-(intOf i).toNat)
 case atStart=>exact⟨0,dL _,rfl,HB,HX⟩
 case round=>
  clear HB HX;obtain⟨j,hjl,rfl,HB,HX⟩:=hrel;have c:=cell_of (i:=4) HX.o rfl;rw[HER.o] at c;by_cases hlt:j<w.rows.length
  ·as_aux_lemma=>
   obtain⟨b,off,cs,ha,hbl,hcs,x1,rfl,hr⟩:=HRW.o j hlt;subst ha;have HEX:=aB (fun(B:World) (hb:Bl W B)=>exprs18_any (HL.o.row _ (dS hlt)) ((rowsg_ex hr).bl hb));have c0:wr.cell? ⟨b,off+j,none⟩=some x1:=by
    have h:=(hcs.keep (HB.o.block b hbl)) 0 _ rfl;simpa[gRow] using h
   have hlt':(j:Int)<(w.rows.length:Int):=aE;clear hr hcs;generalize fewL exF w.rows[j]=b5 at *;go_wp2_with fail;refine(HEX.o _ HB.o).mono ?_;rintro e w9 ⟨rfl,hb9⟩;clear c c0
   replace HX:=aB (keep_b HX.o hb9)
   replace HB:=aB (HB.o.call hb9)
   clear hb9;cases b5
   ·skip
    go_wp2;go_ret;exact⟨⟨false,rfl,fun h=>aq⟩,HB.o⟩
   go_wp2;go_roundw
   case rel=>exact⟨j+1,by omega,by go_num,HB,HX⟩
   case measure=>simp[intOf];omega
  ·as_aux_lemma=>
   obtain rfl:j=w.rows.length:=aE;clear hlt hjl;go_wp2_with fail;clear c;go_loopw [4] (fun i wr=>∃j:Nat,j<=w.whens.length/\i= .int .i64 (j:Int)/\Hid (Bl W wr)/\Hid (wr.heap[W.heap.size]?=some (.cells (cWr w s).toArray 46 (0,0)))/\Hid (∀i,(h:i<w.whens.length)->i<j->fewL setF w.whens[i].sets=true)) (fun i _=>w.whens.length-(intOf i).toNat)
   case atStart=>exact⟨0,dL _,rfl,HB,HX,fun i h h0=>aE⟩
   case round=>
    clear HB HX;obtain⟨j,hjl,rfl,HB,HX,HD⟩:=hrel;have d:=cell_of (i:=51) HX.o rfl;rw[HEN.o] at d;by_cases hlt:j<w.whens.length
    ·as_aux_lemma=>
     obtain⟨b,off,cs,ha,hbl,hcs,s1,ss,sc,sv,rfl,hr1,hr2,hr3,hr4⟩:=HWN.o j hlt;subst ha;obtain⟨xa,xc,rfl,-⟩:=id hr2.shape;obtain⟨ya,yc,rfl⟩:=id hr1.shape;obtain⟨za,zc,rfl,-⟩:=id hr3.shape;obtain⟨va,vc,rfl⟩:=id hr4.shape;have hlx:=HL.o.when' _ (dS hlt);have HE1:=aB (fun(B:World) (hb:Bl W B)=>vast18 w.whens[j].cond B (.agg (qD w.whens[j].cond (.slice ya w.whens[j].cond.args.length yc)).toArray) ⟨_,rfl,hr1.reads.bl hb⟩);have HE2:=aB (fun(B:World) (hb:Bl W B)=>sets18_any hlx.1 (hr2.bl hb));have HE3:=aB (fun(B:World) (hb:Bl W B)=>names18_any hlx.2.1 (hr3.bl hb));have HE4:=aB (fun(B:World) (hb:Bl W B)=>exprs18_any hlx.2.2 ((rowsg_ex hr4).bl hb));have HCS:=aB (show wr.rangeAt b (off+j * 13) (cells13 w.whens[j] (.slice ya w.whens[j].cond.args.length yc) (.slice xa w.whens[j].sets.length xc) (.slice za w.whens[j].cols.length zc) (.slice va w.whens[j].vals.length vc)) from(hcs.keep (HB.o.block b hbl)).range);have HDJ:Hid (fewL setF w.whens[j].sets=true->∀i,(h:i<w.whens.length)->i<j+1->fewL setF w.whens[i].sets=true):=fun h i hi h1=>by
      by_cases e:i=j
      ·subst e;exact h
      ·exact HD.o i hi aE
     have hlt':(j:Int)<(w.whens.length:Int):=aE;clear hr1 hr2 hr3 hr4 hcs hlx HD;generalize partsV 200 30 w.whens[j].cond=n at *;generalize fewL setF w.whens[j].sets=b5 at *;generalize fewL nameF w.whens[j].cols=b6 at *;generalize fewL exF w.whens[j].vals=b7 at *;generalize w.whens[j]=y at *;go_wp2_with (first
      |(refine wpList_load_mid rfl 87 (.tmp 104) rfl b (off+j * 13) rfl (cells13 y (.slice ya y.cond.args.length yc) (.slice xa y.sets.length xc) (.slice za y.cols.length zc) (.slice va y.vals.length vc)) _ HCS.o Tryz.underlying87 rfl whenInfo ?_)
      |(refine bA (g:=wr.heap.size) (i:=0) rfl rfl rfl rfl (cells13 y (.slice ya y.cond.args.length yc) (.slice xa y.sets.length xc) (.slice za y.cols.length zc) (.slice va y.vals.length vc)) (aN wr _) rfl rfl whenInfo rfl ?_))
     intro w3 hB3 hX3;have hb9:Bl wr w3:=((Bl.refl wr).alloc _).but hB3 (aH _);obtain⟨zb,hzb⟩:∃zb,wr.heap.size=zb:=⟨_,rfl⟩
     rw[hzb] at hX3⊢;have HXW:=aB hX3;clear hB3 hX3 hzb d HCS
     replace HX:=aB (keep_b HX.o hb9)
     replace HB:=aB (HB.o.call hb9)
     clear hb9;go_wp2_with (refine wpList_load_midG ar 38 (.tmp 106) rfl zb 1 rfl (qD y.cond (.slice ya y.cond.args.length yc)) _ (range_of HXW.o rfl) Tryz.underlying38 rfl d4b ?_)
     refine(HE1.o _ HB.o).mono ?_;rintro e w9 ⟨rfl,hb9⟩
     replace HXW:=aB (keep_b HXW.o hb9)
     replace HX:=aB (keep_b HX.o hb9)
     replace HB:=aB (HB.o.call hb9)
     clear hb9;by_cases h4:30<n
     ·have h4':(30:Int)<(n:Int):=by omega
      clear h4;go_wp2;go_ret;exact⟨⟨false,rfl,fun h=>aq⟩,HB.o⟩
     have h4':decide ((30:Int)<(n:Int))=false:=decide_eq_false aE;clear h4;have c10:=cell_of (i:=10) HXW.o rfl;go_wp2_with fail;refine(HE2.o _ HB.o).mono ?_;rintro e w9 ⟨rfl,hb9⟩;clear c10
     replace HXW:=aB (keep_b HXW.o hb9)
     replace HX:=aB (keep_b HX.o hb9)
     replace HB:=aB (HB.o.call hb9)
     clear hb9;cases b5
     ·skip
      go_wp2;go_ret;exact⟨⟨false,rfl,fun h=>aq⟩,HB.o⟩
     have HD:=aB (HDJ.o rfl);have c11:=cell_of (i:=11) HXW.o rfl;go_wp2_with fail;refine(HE3.o _ HB.o).mono ?_;rintro e w9 ⟨rfl,hb9⟩;clear c11
     replace HXW:=aB (keep_b HXW.o hb9)
     replace HX:=aB (keep_b HX.o hb9)
     replace HB:=aB (HB.o.call hb9)
     clear hb9;cases b6
     ·skip
      go_wp2;go_ret;exact⟨⟨false,rfl,fun h=>aq⟩,HB.o⟩
     have c12:=cell_of (i:=12) HXW.o rfl;go_wp2_with fail;refine(HE4.o _ HB.o).mono ?_;rintro e w9 ⟨rfl,hb9⟩;clear c12
     replace HXW:=aB (keep_b HXW.o hb9)
     replace HX:=aB (keep_b HX.o hb9)
     replace HB:=aB (HB.o.call hb9)
     clear hb9;cases b7
     ·skip
      go_wp2;go_ret;exact⟨⟨false,rfl,fun h=>aq⟩,HB.o⟩
     go_wp2;go_roundw
     case rel=>exact⟨j+1,by omega,by go_num,HB,HX,HD⟩
     case measure=>simp[intOf];omega
    ·as_aux_lemma=>
     obtain rfl:j=w.whens.length:=aE;have hge:¬((w.whens.length:Int)<(w.whens.length:Int)):=aE;have HF:=aB (FewW.mk HB3.o HW10.o fun x hx=>by
      obtain⟨i,hi,rfl⟩:=List.getElem_of_mem hx;exact HD.o i hi hi)
     clear HD;go_wp2;go_ret;exact⟨⟨true,rfl,fun _=>HF.o⟩,HB.o⟩
end
end
end Go.Proofs.YtohlomdapelgeaaGreatDoor
