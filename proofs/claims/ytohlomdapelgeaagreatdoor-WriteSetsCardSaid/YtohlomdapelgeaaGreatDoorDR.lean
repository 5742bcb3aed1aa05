/- Texts TM. -/
import Derived.Test.YtohlomdapelgeaaGreatDoorDQ
import Derived.Test.YtohlomdapelgeaaGreatDoorCM
namespace Go.Proofs.YtohlomdapelgeaaGreatDoor
open _root_.Go.Proofs.Tryz
open Go.RowKit
open _root_.Bool renaming and_eq_true->aQ,not_eq_true'->nT
open _root_.Go.Lib renaming hid->aB
open _root_.List renaming all_eq_true->jA
open _root_.Nat renaming le_refl->aH,le_trans->jH
set_option maxRecDepth 100000
set_option maxHeartbeats 8000000
section
def shB(s:List UInt8):Bool:=decide (s.length<=10000)
theorem sh_of{s:List UInt8}(h:shB s=true):d4d s:=by
 unfold shB at h;simp only[decide_eq_true_eq] at h;unfold d4d;omega
def stB(s:St):Bool:=shB s.n&&exB s.x
def wnB(x:Wn):Bool:=exB x.cond&&x.sets.all stB&&x.cols.all shB&&x.vals.all exB&&decide (x.sets.length<=1000/\x.cols.length<=1000/\x.vals.length<=1000)
def itB(i:It):Bool:=exB i.x&&shB i.t&&shB i.al
def wrB(w:Wr):Bool:=shB w.into.t&&shB w.into.al&&shB w.using'.t&&shB w.using'.al&&w.cols.all shB&&w.conf.all shB&&(w.rows.all fun r=>decide (r.length<=1000)&&r.all exB)&&quB w.query&&w.sets.all stB&&exB w.wher&&exB w.on&&w.whens.all wnB&&w.ret.all itB&&
 decide (w.cols.length<=1000/\w.conf.length<=1000/\w.rows.length<=1000/\w.sets.length<=1000/\w.whens.length<=1000/\w.ret.length<=1000)&&decide ((d5q w.ret).length<=10000)
theorem ex_small{x:Ex}(h:exB x=true):fC x<=1000000:=(d6n h).parts
theorem small_of{q:Qu}(h:quB q=true):d9u 1000000 q:=by
 unfold quB at h;simp only[aQ,decide_eq_true_eq,jA] at h;obtain⟨⟨⟨⟨⟨⟨⟨⟨⟨hi,hf⟩,hj⟩,hw⟩,hg⟩,hh⟩,ho⟩,hl⟩,ht⟩,hm⟩:=h;exact⟨fun i h=>ex_small (hi i h).1.1,fun j h=>ex_small (hj j h).1.1,ex_small hw,fun x h=>ex_small (hg x h),ex_small hh,fun o h=>ex_small (ho o h),by omega,by omega,by omega,by omega⟩
theorem stSz_of{s:St}(h:stB s=true):StSz s:=by
 unfold stB at h;simp only[aQ] at h;exact⟨sh_of h.1,d6n h.2⟩
theorem wnSz_of{x:Wn}(h:wnB x=true):WnSz x:=by
 unfold wnB at h;simp only[aQ,decide_eq_true_eq,jA] at h;obtain⟨⟨⟨⟨h1,h2⟩,h3⟩,h4⟩,h5,h6,h7⟩:=h;exact⟨d6n h1,fun s m=>stSz_of (h2 s m),fun s m=>sh_of (h3 s m),fun y m=>d6n (h4 y m),by omega,by omega,by omega⟩
theorem wrSz_of{w:Wr}(h:wrB w=true):WrSz w:=by
 unfold wrB at h;simp only[aQ,decide_eq_true_eq,jA] at h;obtain⟨⟨⟨⟨⟨⟨⟨⟨⟨⟨⟨⟨⟨⟨h1,h2⟩,h3⟩,h4⟩,h5⟩,h6⟩,h7⟩,h8⟩,h9⟩,h10⟩,h11⟩,h12⟩,h13⟩,l1,l2,l3,l4,l5,l6⟩,ht⟩:=h;exact⟨⟨sh_of h1,sh_of h2⟩,⟨sh_of h3,sh_of h4⟩,fun x m=>sh_of (h5 x m),fun x m=>sh_of (h6 x m),fun r m=>⟨by have:=(h7 r m).1;omega,fun x n=>d6n ((h7 r m).2 x n)⟩,e6d h8,small_of h8,fun x m=>stSz_of (h9 x m),d6n h10,d6n h11,fun x m=>wnSz_of (h12 x m),
  fun i m=>by
   have:=h13 i m;unfold itB at this;simp only[aQ] at this;exact⟨d6n this.1.1,sh_of this.1.2,sh_of this.2⟩,
  fun _=>by omega,by omega,by omega,by omega,by omega,by omega,by omega⟩
def works18B(s t:List UInt8):Bool:=noQB s&& !(parseW s).2.hasQ&&(parseW s).1==0&&rightW (parseW s).2&&textW (parseW s).2==t&&wrB (parseW s).2&&shB t
structure OkW(s t:List UInt8):Prop where
 noQ:noQB s=true
 has:(parseW s).2.hasQ=false
 no:(parseW s).1=0
 chk:rightW (parseW s).2=true
 txt:textW (parseW s).2=t
 sz:WrSz (parseW s).2
 len:t.length<=10000
theorem okW{s t:List UInt8}(h:works18B s t=true):OkW s t:=by
 unfold works18B shB at h;simp only[aQ,beq_iff_eq,decide_eq_true_eq,nT] at h;exact⟨h.1.1.1.1.1.1,h.1.1.1.1.1.2,h.1.1.1.1.2,h.1.1.1.2,h.1.1.2,wrSz_of h.1.2,h.2⟩
def rowW1:List UInt8:=[105,110,115,101,114,116,32,105,110,116,111,32,116,40,97,44,98,41,32,118,97,108,117,101,115,32,40,49,44,32,39,120,39,41,44,32,40,50,44,32,110,117,108,108,41,32,111,110,32,99,111,110,102,108,105,99,116,32,40,97,41,32,100,111,32,117,112,100,97,116,101,32,115,101,116,32,98,32,61,32,110,101,119,46,98]
def rowV1:List UInt8:=[105,110,115,101,114,116,32,105,110,116,111,32,116,32,40,97,44,32,98,41,32,118,97,108,117,101,115,32,40,49,44,32,39,120,39,41,44,32,40,50,44,32,110,117,108,108,41,32,111,110,32,99,111,110,102,108,105,99,116,32,40,97,41,32,100,111,32,117,112,100,97,116,101,32,115,101,116,32,98,32,61,32,110,101,119,46,98]
def rowW2:List UInt8:=[109,101,114,103,101,32,105,110,116,111,32,116,32,117,115,105,110,103,32,117,32,111,110,32,116,46,97,32,61,32,117,46,97,32,119,104,101,110,32,109,97,116,99,104,101,100,32,97,110,100,32,98,32,116,104,101,110,32,100,101,108,101,116,101,32,119,104,101,110,32,110,111,116,32,109,97,116,99,104,101,100,32,116,104,101,110,32,105,110,115,101,114,116,32,118,97,108,117,101,115,32,40,49,41]
def rowV2:List UInt8:=[109,101,114,103,101,32,105,110,116,111,32,116,32,117,115,105,110,103,32,117,32,111,110,32,40,116,46,97,32,61,32,117,46,97,41,32,119,104,101,110,32,109,97,116,99,104,101,100,32,97,110,100,32,98,32,116,104,101,110,32,100,101,108,101,116,101,32,119,104,101,110,32,110,111,116,32,109,97,116,99,104,101,100,32,116,104,101,110,32,105,110,115,101,114,116,32,118,97,108,117,101,115,32,40,49,41]
def rowW3:List UInt8:=[117,112,100,97,116,101,32,116,32,115,101,116,32,97]
def rowW4:List UInt8:=[100,101,108,101,116,101,32,116]
theorem rowW1_ok:works18B rowW1 rowV1=true:=by decide+kernel
theorem rowW2_ok:works18B rowW2 rowV2=true:=by decide+kernel
theorem rowW3_no:((parseW rowW3).1==261)=true:=by decide+kernel
theorem rowW4_no:((parseW rowW4).1==261)=true:=by decide+kernel
theorem rowW3_q:noQB rowW3=true:=by decide+kernel
theorem rowW4_q:noQB rowW4=true:=by decide+kernel
theorem rowW3_eq:(parseW rowW3).1=261:=by simpa using rowW3_no
theorem rowW4_eq:(parseW rowW4).1=261:=by simpa using rowW4_no
theorem num18_any(n:Int)(w:World):eg 9 #[.int .i64 n] w fun e w'=>e= .returned (.int .i64 n)/\w=w':=by
 go_enter func9,ntmps9;go_wp2;go_ret;exact⟨rfl,rfl⟩
theorem is18_any{s t:List UInt8}(hs:s.length<=9223372036854775807)(hk:OkW s t)(W:World)(hG:nD W):eg 17 #[S s,S t] W fun e w'=>e= .returned (.bool true)/\Bl W w':=by
 have HX:Hid (∀W' sl,Bl W W'->PartsW (fun _=>True) W' (parseW s).2 sl->eg 10 #[.agg (cWr (parseW s).2 sl).toArray] W' fun e w'=>e= .returned (.tuple #[S t,.int .i64 0])/\Bl W' w'):=fun W' sl hb hp=>by
  have h:=zText_yes hk.sz (fun e=>by rw[hk.has] at e;cases e) hk.chk (by rw[hk.txt];exact jH hk.len ae) W' hp (hG.bl hb);rw[hk.txt] at h;exact h
 have HP:Hid (eg 8 #[S s] W (ZParsePost s W)):=zParse_any s hs (noQ_of hk.noQ) W hG;have HN:=aB hk.no;clear hk hG;go_enter func17,ntmps17;go_wp2_with fail;refine HP.o.mono ?_;rintro e w1 ⟨v,⟨sl,rfl,hp⟩,rfl,hb1⟩;rw[HN.o];have HV:=aB hp;have HONE:=aB hp.one;have HB1:=aB hb1;clear HN HP hp hb1;generalize (parseW s).2=w at *;have HY2:=aB (aN w1 (.cells zW0.toArray 46));have HA2:=aB ((Bl.refl w1).alloc (.cells zW0.toArray 46));go_wp2_with (refine bA (g:=(w1).heap.size) (i:=0) rfl rfl rfl rfl (cWr w sl) HY2.o rfl rfl wrInfo HONE.o ?_)
 intro w2 hB2 hX2;have HX2:=aB hX2;have HC2:=aB (HA2.o.but hB2 (aH _));have HB2:=aB ((HB1.o).call HC2.o);clear hB2 hX2 HY2 HA2 HONE;go_wp2_with (refine wpList_load_row rfl 46 (.tmp 5) rfl w1.heap.size rfl 46 _ (0,0) _ HX2.o underlying46 rfl wrInfo ?_)
 go_wp2_with fail;refine(HX.o _ _ HB2.o (HV.o.bl HC2.o)).mono ?_;rintro e w3 ⟨rfl,hb3⟩;have HB3:=aB (HB2.o.call hb3);clear hb3 HX2;go_wp2_with (first
  |(go_at_call 9;(with_reducible refine(num18_any _ _).mono ?_);rintro e w' ⟨rfl,rfl⟩))
 go_ret;exact⟨rfl,HB3.o⟩
theorem works18_any(W:World)(hG:nD W):eg 6 #[] W fun e w'=>e= .returned (.bool true)/\Bl W w':=by
 have HG:=aB hG;clear hG;go_enter func6,ntmps6;go_wp2_with fail;refine(zParse_any rowW3 ae (noQ_of rowW3_q) _ HG.o).mono ?_;rintro e w1 ⟨v,⟨sl,rfl,hp⟩,rfl,hb1⟩;rw[rowW3_eq];have HONE:=aB hp.one;have HB1:=aB hb1;clear hp hb1;generalize (parseW rowW3).2=w at *;have HY2:=aB (aN w1 (.cells zW0.toArray 46));have HA2:=aB ((Bl.refl w1).alloc (.cells zW0.toArray 46));go_wp2_with (refine bA (g:=(w1).heap.size) (i:=0) rfl rfl rfl rfl (cWr w sl) HY2.o rfl rfl wrInfo HONE.o ?_)
 intro w2 hB2 hX2;have HX2:=aB hX2;have HC2:=aB (HA2.o.but hB2 (aH _));have HB2:=aB ((HB1.o).call HC2.o);clear hB2 hX2 HY2 HA2 HONE;clear HX2 HC2 HB1;go_wp2_with fail;refine(zParse_any rowW4 ae (noQ_of rowW4_q) _ (HG.o.bl HB2.o)).mono ?_;rintro e w3 ⟨v,⟨sl,rfl,hp⟩,rfl,hb3⟩;rw[rowW4_eq];have HONE:=aB hp.one;have HB3:=aB (HB2.o.call hb3);clear hp hb3;generalize (parseW rowW4).2=w at *;have HY4:=aB (aN w3 (.cells zW0.toArray 46));have HA4:=aB ((Bl.refl w3).alloc (.cells zW0.toArray 46));go_wp2_with (refine bA (g:=(w3).heap.size) (i:=0) rfl rfl rfl rfl (cWr w sl) HY4.o rfl rfl wrInfo HONE.o ?_)
 intro w4 hB4 hX4;have HX4:=aB hX4;have HC4:=aB (HA4.o.but hB4 (aH _));have HB4:=aB ((HB3.o).call HC4.o);clear hB4 hX4 HY4 HA4 HONE;clear HX4 HC4 HB3;go_wp2_with fail;refine(is18_any (s:=rowW1) (t:=rowV1) ae (okW rowW1_ok) _ (HG.o.bl HB4.o)).mono ?_;rintro e w5 ⟨rfl,hb5⟩;have HB5:=aB (HB4.o.call hb5);go_wp2_with fail;refine(is18_any (s:=rowW2) (t:=rowV2) ae (okW rowW2_ok) _ (HG.o.bl HB5.o)).mono ?_;rintro e w6 ⟨rfl,hb6⟩;have HB6:=aB (HB5.o.call hb6);clear hb5 hb6;go_wp2_with (first
  |(go_at_call 9;(with_reducible refine(num18_any _ _).mono ?_);rintro e w' ⟨rfl,rfl⟩))
 go_ret;exact⟨rfl,HB6.o⟩
end
end Go.Proofs.YtohlomdapelgeaaGreatDoor
