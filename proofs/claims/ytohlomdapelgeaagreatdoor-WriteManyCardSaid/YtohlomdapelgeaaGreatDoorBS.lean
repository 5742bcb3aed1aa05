/- Texts TO. -/
import Derived.Test.YtohlomdapelgeaaGreatDoorBR
import Derived.Test.YtohlomdapelgeaaGreatDoorAT
namespace Go.Proofs.YtohlomdapelgeaaGreatDoor
open _root_.Go.Proofs.Tryz
open Go.RowKit
open _root_.Go.Lib renaming hid->aB
open _root_.List renaming length_append->bD,length_cons->aX,length_nil->bL,mem_cons->dD
open _root_.Nat renaming le_refl->aH,zero_le->dL
set_option maxRecDepth 100000
set_option maxHeartbeats 16000000
section
theorem S_appW(a b:List UInt8):(Value.string (⟨a.toArray⟩++⟨b.toArray⟩):Value)=S (a++b):=congrArg Value.string (c4c a b)
theorem many18_any(s:List UInt8)(n:Nat)(hn:n<=1000)(hs:s.length<=1000)(W:World):fW 7 #[S s,.int .i64 ((n:Int)+1)] W fun e w'=>e= .returned (S (repT s n))/\W=w':=by
 have HLEN:=aB (fun k=>repT_len s k);go_enter func7,ntmps7;go_wp2_with fail;go_loopw [5,6] (fun sv iv wr=>∃(k:Nat) (s0:List UInt8) (v0:Value),sv=v0/\k<=n/\iv= .int .i64 ((k:Int)+1)/\Hid (wr=W)/\Hid (v0=S s0)/\Hid (s0=repT s k)) (fun _ iv _=>n+1-(intOf iv).toNat)
 case atStart=>exact⟨0,s,_,rfl,dL _,rfl,rfl,rfl,rfl⟩
 case round=>
 obtain⟨k,s0,v0,rfl,hk,rfl,HW,HV,HS⟩:=hrel;obtain rfl:=HV.o;obtain rfl:=HW.o;clear HV HW;by_cases hlt:k<n
 ·have hlt':(k:Int)+1<(n:Int)+1:=by omega
  have hsl:s0.length+2+s.length<=100000000:=by
   have h1:=HLEN.o k;rw[<-HS.o] at h1;have h2:k * (s.length+2)<=1000 * 1002:=Nat.mul_le_mul aE aE;omega
  go_wp2;go_roundw
  case rel=>exact⟨k+1,s0++[44,32]++s,_,rfl,by omega,by go_num,(by first |rfl|(show True;trivial)),by show _=_;first |rfl|(rw[S_appW];rfl)|simp,by show _=_;rw[HS.o];rfl⟩
  case measure=>simp[intOf];omega
 obtain rfl:k=n:=aE;have g1:¬(k:Int)+1<(k:Int)+1:=aE;go_wp2;go_ret;exact⟨by rw[HS.o]<;>rfl,rfl⟩
structure ManyP(A w':World)(e:Ending)(w:Wr)(c:Int):Prop where
 post:∃sl,e= .returned (.tuple #[.agg (cWr w sl).toArray,.int .i64 c])/\PartsW (fun _=>True) w' w sl/\Bl A w'
theorem many_post{s:List UInt8}{A:World}{w:Wr}{c:Int}(hp:parseW s=(c,w))(hq:noQB s=true)(hs:s.length<=9223372036854775807)(hG:nD A):fW 8 #[S s] A fun e w'=>ManyP A w' e w c:=by
 refine(zParse_any s hs (noQ_of hq) A hG).mono fun e w' h=>?_;obtain⟨v,⟨sl,rfl,hpp⟩,he,hb⟩:=h;rw[hp] at hpp he;exact⟨sl,he,hpp,hb⟩
theorem wmany_out(i j k:Int)(h:¬(1<=i/\i<=70/\1<=j/\j<=40/\1<=k/\k<=12))(W:World)(hG:nD W):fW 3 #[.int .i64 i,.int .i64 j,.int .i64 k] W (Yes W):=by
 have HG:=aB hG;clear hG;by_cases h1:i<1
 ·clear h;go_enter func3,ntmps3;go_wp2_with fail
  (with_reducible refine(works18_any _ HG.o).mono ?_)
  rintro e w1 ⟨rfl,hb1⟩;go_wp2;go_ret;exact⟨rfl,hb1⟩
 by_cases h2:70<i
 ·clear h;go_enter func3,ntmps3;go_wp2_with fail
  (with_reducible refine(works18_any _ HG.o).mono ?_)
  rintro e w1 ⟨rfl,hb1⟩;go_wp2;go_ret;exact⟨rfl,hb1⟩
 by_cases h3:j<1
 ·clear h;go_enter func3,ntmps3;go_wp2_with fail
  (with_reducible refine(works18_any _ HG.o).mono ?_)
  rintro e w1 ⟨rfl,hb1⟩;go_wp2;go_ret;exact⟨rfl,hb1⟩
 by_cases h4:40<j
 ·clear h;go_enter func3,ntmps3;go_wp2_with fail
  (with_reducible refine(works18_any _ HG.o).mono ?_)
  rintro e w1 ⟨rfl,hb1⟩;go_wp2;go_ret;exact⟨rfl,hb1⟩
 by_cases h5:k<1
 ·clear h;go_enter func3,ntmps3;go_wp2_with fail
  (with_reducible refine(works18_any _ HG.o).mono ?_)
  rintro e w1 ⟨rfl,hb1⟩;go_wp2;go_ret;exact⟨rfl,hb1⟩
 by_cases h6:12<k
 ·clear h;go_enter func3,ntmps3;go_wp2_with fail
  (with_reducible refine(works18_any _ HG.o).mono ?_)
  rintro e w1 ⟨rfl,hb1⟩;go_wp2;go_ret;exact⟨rfl,hb1⟩
 omega
theorem ins_bytes{n r:Nat}:(Value.string ((⟨#[105,110,115,101,114,116,32,105,110,116,111,32,116,32,40]⟩:ByteArray)++⟨(repT [97] n).toArray⟩++⟨#[41,32,118,97,108,117,101,115,32]⟩++⟨(repT [40,49,41] r).toArray⟩))=S (insH++repT [97] n++insM++repT [40,49,41] r):=
 congrArg Value.string (by rw[show(⟨#[105,110,115,101,114,116,32,105,110,116,111,32,116,32,40]⟩:ByteArray)=⟨insH.toArray⟩ from rfl,show(⟨#[41,32,118,97,108,117,101,115,32]⟩:ByteArray)=⟨insM.toArray⟩ from rfl,c4c,c4c,c4c])
theorem ins_noQ(n r:Nat):noQB (insH++repT [97] n++insM++repT [40,49,41] r)=true:=by
 have h:=noQ_loose (ins_loose (n+1) r) (ins_fits _ _) (ins_deep _ _) rfl;rw[ins_text] at h;exact h
theorem upd_noQ(n:Nat):noQB (updH++repT [97,32,61,32,49] n)=true:=by
 have h:=noQ_loose (upd_loose n) (upd_fits _) (upd_deep _) rfl;rw[upd_text] at h;exact h
theorem mrg_noQ(k:Nat):noQB (mrgT (k+1))=true:=by
 have h:=noQ_loose (mrg_loose k) (mrg_fits _) (mrg_deep _) rfl;rw[mrg_text] at h;exact h
theorem ins_ways(n r:Nat)(hn:n+1<=40)(hr:r+1<=70):(∃c w,parseW (insH++repT [97] n++insM++repT [40,49,41] r)=(c,w)/\((64<r+1/\c=270)\/(¬64<r+1/\32<n+1/\c=270)\/(¬64<r+1/\¬32<n+1/\c=0/\w=insMW (n+1) (r+1)))):=by
 have h:=ins_parse n r hn hr;by_cases h1:64<r+1
 ·refine⟨270,zeroW,?_,.inl ⟨h1,rfl⟩⟩;rw[h,decide_eq_true h1];rfl
 by_cases h2:32<n+1
 ·refine⟨270,zeroW,?_,.inr (.inl ⟨h1,h2,rfl⟩)⟩;rw[h,decide_eq_true h2,Bool.or_true];rfl
 ·refine⟨0,insMW (n+1) (r+1),?_,.inr (.inr ⟨h1,h2,rfl,rfl⟩)⟩;rw[h,decide_eq_false h1,decide_eq_false h2];rfl
theorem upd_ways(n:Nat)(hn:n+1<=40):(∃c w,parseW (updH++repT [97,32,61,32,49] n)=(c,w)/\((32<n+1/\c=270)\/(¬32<n+1/\c=0/\w.sets.length=n+1))):=by
 have h:=upd_parse n hn;by_cases h1:32<n+1
 ·refine⟨270,zeroW,?_,.inl ⟨h1,rfl⟩⟩;rw[h,decide_eq_true h1];rfl
 ·refine⟨0,updW (n+1),?_,.inr ⟨h1,rfl,by simp[updW]⟩⟩;rw[h,decide_eq_false h1];rfl
theorem mrg_ways(k:Nat)(hk:k+1<=12):(∃c w,parseW (mrgT (k+1))=(c,w)/\((8<k+1/\c=270)\/(¬8<k+1/\c=0/\w.whens.length=k+1))):=by
 have h:=mrg_parse k hk;by_cases h1:8<k+1
 ·refine⟨270,zeroW,?_,.inl ⟨h1,rfl⟩⟩;rw[h,decide_eq_true h1];rfl
 ·refine⟨0,mrgW (k+1),?_,.inr ⟨h1,rfl,by simp[mrgW]⟩⟩;rw[h,decide_eq_false h1];rfl
theorem oneE_ok:e0m oneE:=⟨by decide,.mk 1 (2,1,[]) [] [] 0 [] ab ab (fun y hy=>by cases hy),fit_one,fun _=>by rw[show eY oneE=[49] from by decide+kernel];decide⟩
theorem ins_sz(n r:Nat)(hn:n<=1000000)(hr:r<=1000000):WrSz (insMW n r):=
 ⟨⟨show([116]:List UInt8).length<=9223372036854775807 by decide,show([]:List UInt8).length<=9223372036854775807 by decide⟩,⟨show([]:List UInt8).length<=9223372036854775807 by decide,show([]:List UInt8).length<=9223372036854775807 by decide⟩,
  fun x hx=>by rw[mem_rep hx];decide,fun x hx=>(by cases hx),fun r hr=>by rw[mem_rep hr];exact⟨by decide,fun x hx=>by simp only[dD,List.not_mem_nil,or_false] at hx;rw[hx];exact oneE_ok⟩,quOK_zero,e1l ab,
  fun x hx=>(by cases hx),e0m.zero,e0m.zero,fun x hx=>(by cases hx),fun x hx=>(by cases hx),fun h=>absurd h (by show d4l []≠true;decide),by simpa[insMW] using hn,dL _,by simpa[insMW] using hr,dL _,dL _,dL _⟩
theorem wmany_in(r n k:Nat)(hr:r+1<=70)(hn:n+1<=40)(hk:k+1<=12)(W:World)(hG:nD W):fW 3 #[.int .i64 ((r:Int)+1),.int .i64 ((n:Int)+1),.int .i64 ((k:Int)+1)] W (Yes W):=by
 have HG:=aB hG;clear hG;obtain⟨c1,a1,hp1,hw1⟩:=ins_ways n r hn hr;obtain⟨c2,a2,hp2,hw2⟩:=upd_ways n hn;obtain⟨c3,a3,hp3,hw3⟩:=mrg_ways k hk;have hl1:(insH++repT [97] n++insM++repT [40,49,41] r).length<=100000:=by
  simp only[bD,repT_len,insH,insM,aX,bL];omega
 have hl2:(updH++repT [97,32,61,32,49] n).length<=100000:=by
  simp only[bD,repT_len,updH,aX,bL];omega
 have HP1:Hid (∀A,Bl W A->fW 8 #[S (insH++repT [97] n++insM++repT [40,49,41] r)] A fun e w'=>ManyP A w' e a1 c1):=fun A hb=>many_post hp1 (ins_noQ n r) aE (HG.o.bl hb);have HP2:Hid (∀A,Bl W A->fW 8 #[S (updH++repT [97,32,61,32,49] n)] A fun e w'=>ManyP A w' e a2 c2):=fun A hb=>many_post hp2 (upd_noQ n) aE (HG.o.bl hb);have HP3:Hid (∀A,Bl W A->fW 8 #[S (mrgT (k+1))] A fun e w'=>ManyP A w' e a3 c3):=fun A hb=>many_post hp3 (mrg_noQ k) (by rw[mrgT_len];omega) (HG.o.bl hb);have HTX:Hid (∀A sl,¬64<r+1->¬32<n+1->Bl W A->PartsW (fun _=>True) A (insMW (n+1) (r+1)) sl->fW 10 #[.agg (cWr (insMW (n+1) (r+1)) sl).toArray] A fun e w'=>e= .returned (.tuple #[S (insH++repT [97] n++insM++repT [40,49,41] r),.int .i64 0])/\Bl A w'):=fun A sl h1 h2 hb hp=>by
  have h:=zText_yes (ins_sz (n+1) (r+1) aE aE) (fun e=>(by cases e)) (ins_right n r aE aE) (by rw[ins_text];omega) A hp (HG.o.bl hb);rw[ins_text] at h;exact h
 have HW1:=aB hw1;have HW2:=aB hw2;have HW3:=aB hw3;have HRL:=aB (fun s j=>repT_len s j);have HL1:=aB hl1;have HL2:=aB hl2;have HM1:=fun(s:List UInt8) (j:Nat) (hj:j<=1000) (hs:s.length<=1000) (A:World)=>many18_any s j hj hs A;have q1:¬(r:Int)+1<1:=aE;have q2:¬70<(r:Int)+1:=aE;have q3:¬(n:Int)+1<1:=aE;have q4:¬40<(n:Int)+1:=aE;have q5:¬(k:Int)+1<1:=aE;have q6:¬12<(k:Int)+1:=aE;have hz1:(repT [97] n).length<=10000:=fS;have hz2:(repT [40,49,41] r).length<=10000:=fS;have hz3:(repT [97,32,61,32,49] n).length<=10000:=fS;clear hp1 hp2 hp3 hw1 hw2 hw3 hl1 hl2;go_enter func3,ntmps3;go_wp2_with fail;clear q1 q2 q3 q4 q5 q6;refine(many18_any [97] n aE ab _).mono ?_;rintro e w' ⟨rfl,rfl⟩;go_wp2_with fail;refine(many18_any [40,49,41] r aE ab _).mono ?_;rintro e w' ⟨rfl,rfl⟩;go_wp2_with fail;rw[ins_bytes];refine(HP1.o _ (Bl.refl _)).mono ?_;rintro e w1 ⟨sl1,rfl,hv1,hb1⟩;have HV1:=aB hv1;have HONE:=aB (show(cWr a1 sl1).all (·.oneCell')=true from hv1.one);have HB1:=aB hb1;clear hv1 hb1 HP1;have HY1:=aB (aN w1 (.cells zW0.toArray 46));have HA1:=aB ((Bl.refl w1).alloc (.cells zW0.toArray 46));go_wp2_with (refine bA (g:=(w1).heap.size) (i:=0) rfl rfl rfl rfl (cWr a1 sl1) HY1.o rfl rfl wrInfo HONE.o ?_)
 intro x1 hB1 hX1;have HX1:=aB hX1;have HC1:=aB (HA1.o.but hB1 (aH _));have HB1:=aB ((HB1.o).call HC1.o);clear hB1 hX1 HY1 HA1 HONE;go_wp2_with fail;refine(many18_any [97,32,61,32,49] n aE ab _).mono ?_;rintro e w' ⟨rfl,rfl⟩;go_wp2_with fail;refine(HP2.o _ HB1.o).mono ?_;rintro e w2 ⟨sl2,rfl,hv2,hb2⟩;have HV2:=aB hv2;have HONE:=aB (show(cWr a2 sl2).all (·.oneCell')=true from hv2.one);have HX1b:=aB ((hb2.block _ (lt_of_heap HX1.o)).trans HX1.o);have HV1b:=aB ((HV1.o.bl HC1.o).bl hb2);have HB2:=aB (HB1.o.call hb2);clear hv2 hb2 HP2 HX1 HC1 HV1;have HY2:=aB (aN w2 (.cells zW0.toArray 46));have HA2:=aB ((Bl.refl w2).alloc (.cells zW0.toArray 46));go_wp2_with (refine bA (g:=(w2).heap.size) (i:=0) rfl rfl rfl rfl (cWr a2 sl2) HY2.o rfl rfl wrInfo HONE.o ?_)
 intro x2 hB2 hX2;have HX2:=aB hX2;have HC2:=aB (HA2.o.but hB2 (aH _));have HB2:=aB ((HB2.o).call HC2.o);clear hB2 hX2 HY2 HA2 HONE;have HX1c:=aB ((HC2.o.block _ (lt_of_heap HX1b.o)).trans HX1b.o);have HV1c:=aB (HV1b.o.bl HC2.o);have HV2c:=aB (HV2.o.bl HC2.o);clear HX1b HV1b HV2 HC2 hz1 hz2 hz3;go_wp2_with fail;go_loopw [12,13] (fun sv iv wr=>∃(j:Nat) (s0:List UInt8) (v0:Value),sv=v0/\j<=k+1/\iv= .int .i64 (j:Int)/\Hid (wr=x2)/\Hid (v0=S s0)/\Hid (s0=mrgT j)) (fun _ iv _=>k+1-(intOf iv).toNat)
 case atStart=>exact⟨0,mrgH,_,rfl,dL _,rfl,rfl,rfl,rfl⟩
 case round=>
 obtain⟨j,s0,v0,rfl,hj,rfl,HW,HV,HS⟩:=hrel;obtain rfl:=HV.o;obtain rfl:=HW.o;clear HV HW;by_cases hlt:j<k+1
 ·have hlt':(j:Int)<(k:Int)+1:=by omega
  have hsl:s0.length+25<=100000000:=by
   have h1:=mrgT_len j;rw[<-HS.o] at h1;omega
  go_wp2;go_roundw
  case rel=>exact⟨j+1,s0++mrgO,_,rfl,by omega,by go_num,(by first |rfl|(show True;trivial)),by show _=_;first |rfl|(rw[S_appW];rfl)|simp,by show _=_;rw[HS.o];rfl⟩
  case measure=>simp[intOf];omega
 obtain rfl:j=k+1:=aE;have g0:¬((k+1:Nat):Int)<(k:Int)+1:=aE;have HS3:=aB HS.o;clear hlt hj;obtain rfl:=HS3.o;clear HS HS3;go_wp2_with fail;refine(HP3.o _ HB2.o).mono ?_;rintro e w3 ⟨sl3,rfl,hv3,hb3⟩;have HV3:=aB hv3;have HONE:=aB (show(cWr a3 sl3).all (·.oneCell')=true from hv3.one);have HX1d:=aB ((hb3.block _ (lt_of_heap HX1c.o)).trans HX1c.o);have HX2d:=aB ((hb3.block _ (lt_of_heap HX2.o)).trans HX2.o);have HV1d:=aB (HV1c.o.bl hb3);have HB3:=aB (HB2.o.call hb3);clear hv3 hb3 HP3 HX1c HX2 HV1c g0;have HY3:=aB (aN w3 (.cells zW0.toArray 46));have HA3:=aB ((Bl.refl w3).alloc (.cells zW0.toArray 46));go_wp2_with (refine bA (g:=(w3).heap.size) (i:=0) rfl rfl rfl rfl (cWr a3 sl3) HY3.o rfl rfl wrInfo HONE.o ?_)
 intro x3 hB3 hX3;have HX3:=aB hX3;have HC3:=aB (HA3.o.but hB3 (aH _));have HB3:=aB ((HB3.o).call HC3.o);clear hB3 hX3 HY3 HA3 HONE;have HX1e:=aB ((HC3.o.block _ (lt_of_heap HX1d.o)).trans HX1d.o);have HX2e:=aB ((HC3.o.block _ (lt_of_heap HX2d.o)).trans HX2d.o);have HV1e:=aB (HV1d.o.bl HC3.o);obtain⟨sa,sc,es,-⟩:=HV2c.o.sets.shape;obtain⟨na,nc,en,-⟩:=HV3.o.whens.shape;have d32:=cell_of (i:=32) HX2e.o rfl;have d51:=cell_of (i:=51) HX3.o rfl;rw[es] at d32;rw[en] at d51;have HBE:=aB HB3.o;clear HX1d HX2d HV1d HV2c HV3 HC3 es en HB1 HB2 HB3 HX2e HX3;have H1:=HW1.o;have H2:=HW2.o;have H3:=HW3.o;clear HW1 HW2 HW3 HRL HL1 HL2 HM1;rcases H1 with⟨h1,rfl⟩|⟨h1,h2,rfl⟩|⟨h1,h2,rfl,rfl⟩
 ·have g1:(64:Int)<(r:Int)+1:=by omega
  clear h1 HTX;rcases H2 with⟨h3,rfl⟩|⟨h3,rfl,e2⟩<;>rcases H3 with⟨h4,rfl⟩|⟨h4,rfl,e3⟩
  ·have g2:(32:Int)<(n:Int)+1:=by omega
   have g3:(8:Int)<(k:Int)+1:=aE;clear h3 h4;go_wp2_with (first
    |(go_at_call 9;(with_reducible refine(num18_any _ _).mono ?_);rintro e w' ⟨rfl,rfl⟩)
    |(go_at_call 6;(with_reducible refine(works18_any _ (HG.o.bl HBE.o)).mono ?_);rintro e w9 ⟨rfl,hb9⟩;replace HBE:=aB (HBE.o.call hb9)))
   go_ret;exact⟨rfl,HBE.o⟩
  ·have g2:(32:Int)<(n:Int)+1:=by omega
   have g3:¬(8:Int)<(k:Int)+1:=aE;rw[e3] at d51;clear h3 h4 e3;go_wp2_with (first
    |(go_at_call 9;(with_reducible refine(num18_any _ _).mono ?_);rintro e w' ⟨rfl,rfl⟩)
    |(go_at_call 6;(with_reducible refine(works18_any _ (HG.o.bl HBE.o)).mono ?_);rintro e w9 ⟨rfl,hb9⟩;replace HBE:=aB (HBE.o.call hb9)))
   go_ret;exact⟨rfl,HBE.o⟩
  ·have g2:¬(32:Int)<(n:Int)+1:=by omega
   have g3:(8:Int)<(k:Int)+1:=aE;rw[e2] at d32;clear h3 h4 e2;go_wp2_with (first
    |(go_at_call 9;(with_reducible refine(num18_any _ _).mono ?_);rintro e w' ⟨rfl,rfl⟩)
    |(go_at_call 6;(with_reducible refine(works18_any _ (HG.o.bl HBE.o)).mono ?_);rintro e w9 ⟨rfl,hb9⟩;replace HBE:=aB (HBE.o.call hb9)))
   go_ret;exact⟨rfl,HBE.o⟩
  ·have g2:¬(32:Int)<(n:Int)+1:=by omega
   have g3:¬(8:Int)<(k:Int)+1:=aE;rw[e2] at d32;rw[e3] at d51;clear h3 h4 e2 e3;go_wp2_with (first
    |(go_at_call 9;(with_reducible refine(num18_any _ _).mono ?_);rintro e w' ⟨rfl,rfl⟩)
    |(go_at_call 6;(with_reducible refine(works18_any _ (HG.o.bl HBE.o)).mono ?_);rintro e w9 ⟨rfl,hb9⟩;replace HBE:=aB (HBE.o.call hb9)))
   go_ret;exact⟨rfl,HBE.o⟩
 ·have g1:¬(64:Int)<(r:Int)+1:=by omega
  have g2:(32:Int)<(n:Int)+1:=aE;rcases H2 with⟨h3,rfl⟩|⟨h3,rfl,e2⟩
  rotate_left
  ·exact absurd h2 h3
  clear h1 h2 h3 HTX;rcases H3 with⟨h4,rfl⟩|⟨h4,rfl,e3⟩
  ·have g3:(8:Int)<(k:Int)+1:=by omega
   clear h4;go_wp2_with (first
    |(go_at_call 9;(with_reducible refine(num18_any _ _).mono ?_);rintro e w' ⟨rfl,rfl⟩)
    |(go_at_call 6;(with_reducible refine(works18_any _ (HG.o.bl HBE.o)).mono ?_);rintro e w9 ⟨rfl,hb9⟩;replace HBE:=aB (HBE.o.call hb9)))
   go_ret;exact⟨rfl,HBE.o⟩
  ·have g3:¬(8:Int)<(k:Int)+1:=by omega
   rw[e3] at d51;clear h4 e3;go_wp2_with (first
    |(go_at_call 9;(with_reducible refine(num18_any _ _).mono ?_);rintro e w' ⟨rfl,rfl⟩)
    |(go_at_call 6;(with_reducible refine(works18_any _ (HG.o.bl HBE.o)).mono ?_);rintro e w9 ⟨rfl,hb9⟩;replace HBE:=aB (HBE.o.call hb9)))
   go_ret;exact⟨rfl,HBE.o⟩
 ·have g1:¬(64:Int)<(r:Int)+1:=by omega
  have g2:¬(32:Int)<(n:Int)+1:=aE;rcases H2 with⟨h3,rfl⟩|⟨h3,rfl,e2⟩
  ·exact absurd h3 h2
  rw[e2] at d32;have HT:=aB (HTX.o _ sl1 h1 h2 HBE.o HV1e.o);clear h1 h2 h3 e2 HTX HV1e;rcases H3 with⟨h4,rfl⟩|⟨h4,rfl,e3⟩
  ·have g3:(8:Int)<(k:Int)+1:=by omega
   clear h4;go_wp2_with (first
    |(go_at_call 9;(with_reducible refine(num18_any _ _).mono ?_);rintro e w' ⟨rfl,rfl⟩)
    |(refine wpList_load_row rfl 46 (.tmp 8) rfl w1.heap.size rfl 46 _ (0,0) _ HX1e.o underlying46 rfl wrInfo ?_))
   refine HT.o.mono ?_;rintro e w5 ⟨rfl,hb5⟩;have d32:=hb5.cell d32;have d51:=hb5.cell d51
   replace HBE:=aB (HBE.o.call hb5)
   clear hb5;go_wp2_with (first
    |(go_at_call 9;(with_reducible refine(num18_any _ _).mono ?_);rintro e w' ⟨rfl,rfl⟩)
    |(go_at_call 6;(with_reducible refine(works18_any _ (HG.o.bl HBE.o)).mono ?_);rintro e w9 ⟨rfl,hb9⟩;replace HBE:=aB (HBE.o.call hb9)))
   go_ret;exact⟨rfl,HBE.o⟩
  ·have g3:¬(8:Int)<(k:Int)+1:=by omega
   rw[e3] at d51;clear h4 e3;go_wp2_with (first
    |(go_at_call 9;(with_reducible refine(num18_any _ _).mono ?_);rintro e w' ⟨rfl,rfl⟩)
    |(refine wpList_load_row rfl 46 (.tmp 8) rfl w1.heap.size rfl 46 _ (0,0) _ HX1e.o underlying46 rfl wrInfo ?_))
   refine HT.o.mono ?_;rintro e w5 ⟨rfl,hb5⟩;have d32:=hb5.cell d32;have d51:=hb5.cell d51
   replace HBE:=aB (HBE.o.call hb5)
   clear hb5;go_wp2_with (first
    |(go_at_call 9;(with_reducible refine(num18_any _ _).mono ?_);rintro e w' ⟨rfl,rfl⟩)
    |(go_at_call 6;(with_reducible refine(works18_any _ (HG.o.bl HBE.o)).mono ?_);rintro e w9 ⟨rfl,hb9⟩;replace HBE:=aB (HBE.o.call hb9)))
   go_ret;exact⟨rfl,HBE.o⟩
theorem wmany_all(i j k:Int)(W:World)(hG:nD W):fW 3 #[.int .i64 i,.int .i64 j,.int .i64 k] W (Yes W):=by
 by_cases h:1<=i/\i<=70/\1<=j/\j<=40/\1<=k/\k<=12
 ·obtain⟨r,rfl⟩:∃r:Nat,i=(r:Int)+1:=⟨(i-1).toNat,by omega⟩
  obtain⟨n,rfl⟩:∃r:Nat,j=(r:Int)+1:=⟨(j-1).toNat,by omega⟩
  obtain⟨m,rfl⟩:∃r:Nat,k=(r:Int)+1:=⟨(k-1).toNat,by omega⟩
  exact wmany_in r n m aE aE aE W hG
 ·exact wmany_out i j k h W hG
end
end Go.Proofs.YtohlomdapelgeaaGreatDoor
