/- Texts beside the shared ones. -/
import Derived.Test.YtfkekkgfmhcanaaGreatDoorTS
import Derived.Test.YtfkekkgfmhcanaaGreatDoorTA
import Derived.Test.YtfkekkgfmhcanaaGreatDoorTB
import Derived.Test.YtfkekkgfmhcanaaGreatDoorTC
import Derived.Test.YtfkekkgfmhcanaaGreatDoorTD
import Derived.Test.YtfkekkgfmhcanaaGreatDoorTE
import Derived.Test.YtfkekkgfmhcanaaGreatDoorTF
import Derived.Test.YtfkekkgfmhcanaaGreatDoorTG
import Derived.Test.YtfkekkgfmhcanaaGreatDoorTH
import Derived.Test.YtfkekkgfmhcanaaGreatDoorTI
import Derived.Test.YtfkekkgfmhcanaaGreatDoorTJ
import Derived.Test.YtfkekkgfmhcanaaGreatDoorWYG
import Derived.Test.YtfkekkgfmhcanaaGreatDoorWYD
import Derived.Test.YtfkekkgfmhcanaaGreatDoorWYC
namespace Go.Proofs.YtfkekkgfmhcanaaGreatDoor
open Go.RowKit
open _root_.Go.Lib renaming hid->aB
open _root_.Nat renaming le_refl->aH
set_option maxRecDepth 100000
set_option maxHeartbeats 8000000
section
theorem e4p:(d2r e4q).1=261:=by simpa using e4o
theorem e4m:(d2r e4n).1=261:=by simpa using e4l
theorem d2z.open{s:List UInt8}{W:World}{e:Ending}{w':World}(h:d2z s W e w'):∃ai ni ci aj nj cj aw nw cw ag ng cg ah nh ch ao no co,e= .returned (.tuple #[QV (d2r s).2 (.slice ai ni ci) (.slice aj nj cj) (.slice aw nw cw) (.slice ag ng cg) (.slice ah nh ch) (.slice ao no co),.int .i64 (d2r s).1])/\Bl W w'/\
  d5o w' (d2r s).2 (QV (d2r s).2 (.slice ai ni ci) (.slice aj nj cj) (.slice aw nw cw) (.slice ag ng cg) (.slice ah nh ch) (.slice ao no co)):=by
 obtain⟨v,hv,rfl,hb⟩:=h;obtain⟨si,sj,sw,sg,sh,so,rfl,hp⟩:=id hv;obtain⟨ai,ci,aj,cj,aw,cw,ag,cg,ah,ch,ao,co,rfl,rfl,rfl,rfl,rfl,rfl⟩:=hp.slices;exact⟨_,_,_,_,_,_,_,_,_,_,_,_,_,_,_,_,_,_,rfl,hb,hv⟩
theorem d7k(n:Int)(w:World):Calls Tryz.prog 9 #[.int .i64 n] w fun e w'=>e= .returned (.int .i64 n)/\w=w':=by
 go_enter Tryz.func9,Tryz.ntmps9;go_wp2;go_ret;exact⟨rfl,rfl⟩
theorem e0x{s t:List UInt8}(hs:s.length<=9223372036854775807)(hk:OkQ s t)(W:World)(hG:nD W):Calls Tryz.prog 35 #[S s,S t] W fun e w'=>e= .returned (.bool true)/\Bl W w':=by
 have HX:Hid (∀W' v,Bl W W'->d5o W' (d2r s).2 v->Calls Tryz.prog 8 #[v] W' fun e w'=>e= .returned (.tuple #[S t,.int .i64 0])/\Bl W' w'):=fun W' v hb hv=>by
  have h:=e3l hk.ok hk.chk W' v hv (hG.bl hb);rw[hk.txt] at h;exact h
 have HP:Hid (Calls Tryz.prog 11 #[S s] W (d2z s W)):=d5l s hs W hG;have HN:=aB hk.no;clear hk hG;go_enter Tryz.func35,Tryz.ntmps35;go_wp2_with fail;refine HP.o.mono ?_;intro e w1 hp;obtain⟨ai,ni,ci,aj,nj,cj,aw,nw,cw,ag,ng,cg,ah,nh,ch,ao,no,co,rfl,hb1,hv⟩:=hp.open;rw[HN.o];have HV:=aB hv;have HB1:=aB hb1;clear HN HP hp hv hb1;generalize (d2r s).2=q at *;have HY2:=aB (aN w1 (.cells zQL.toArray 36));have HA2:=aB ((Bl.refl w1).alloc (.cells zQL.toArray 36));go_wp2_with (refine bA rfl rfl rfl rfl (quC q (.slice ai ni ci) (.slice aj nj cj) (.slice aw nw cw) (.slice ag ng cg) (.slice ah nh ch) (.slice ao no co)) HY2.o rfl rfl tC rfl ?_)
 intro w2 hB2 hX2;have HX2:=aB hX2;have HB2:=aB ((HB1.o).call (HA2.o.but hB2 (aH _)));have HC2:=aB (HA2.o.but hB2 (aH _));clear hB2 hX2 HY2 HA2;go_wp2_with (refine wpList_load_row rfl 36 (.tmp 5) rfl w1.heap.size rfl 36 _ (0,0) _ HX2.o Tryz.underlying36 rfl tC ?_)
 go_wp2_with fail;refine(HX.o _ _ HB2.o (HV.o.bl HC2.o)).mono ?_;rintro e w3 ⟨rfl,hb3⟩;have HB3:=aB (HB2.o.call hb3);clear hb3 HX2;go_wp2_with (first
  |(go_at_call 9;(with_reducible refine(d7k _ _).mono ?_);rintro e w' ⟨rfl,rfl⟩))
 go_ret;exact⟨rfl,HB3.o⟩
theorem d7c(W:World)(hG:nD W):Calls Tryz.prog 7 #[] W fun e w'=>e= .returned (.bool true)/\Bl W w':=by
 have HG:=aB hG;clear hG;go_enter Tryz.func7,Tryz.ntmps7;go_wp2_with fail;refine(d5l e4q (by decide) _ HG.o).mono ?_;intro e w1 hp;obtain⟨ai,ni,ci,aj,nj,cj,aw,nw,cw,ag,ng,cg,ah,nh,ch,ao,no,co,rfl,hb1,-⟩:=hp.open;rw[e4p];have HB1:=aB hb1;clear hp hb1;generalize (d2r e4q).2=q at *;have HY2:=aB (aN w1 (.cells zQL.toArray 36));have HA2:=aB ((Bl.refl w1).alloc (.cells zQL.toArray 36));go_wp2_with (refine bA rfl rfl rfl rfl (quC q (.slice ai ni ci) (.slice aj nj cj) (.slice aw nw cw) (.slice ag ng cg) (.slice ah nh ch) (.slice ao no co)) HY2.o rfl rfl tC rfl ?_)
 intro w2 hB2 hX2;have HX2:=aB hX2;have HB2:=aB ((HB1.o).call (HA2.o.but hB2 (aH _)));have HC2:=aB (HA2.o.but hB2 (aH _));clear hB2 hX2 HY2 HA2;clear HX2 HC2 HB1;go_wp2_with fail;refine(d5l e4n (by decide) _ (HG.o.bl HB2.o)).mono ?_;intro e w3 hp;obtain⟨ai,ni,ci,aj,nj,cj,aw,nw,cw,ag,ng,cg,ah,nh,ch,ao,no,co,rfl,hb3,-⟩:=hp.open;rw[e4m];have HB3:=aB (HB2.o.call hb3);clear hp hb3;generalize (d2r e4n).2=q at *;have HY4:=aB (aN w3 (.cells zQL.toArray 36));have HA4:=aB ((Bl.refl w3).alloc (.cells zQL.toArray 36));go_wp2_with (refine bA rfl rfl rfl rfl (quC q (.slice ai ni ci) (.slice aj nj cj) (.slice aw nw cw) (.slice ag ng cg) (.slice ah nh ch) (.slice ao no co)) HY4.o rfl rfl tC rfl ?_)
 intro w4 hB4 hX4;have HX4:=aB hX4;have HB4:=aB ((HB3.o).call (HA4.o.but hB4 (aH _)));have HC4:=aB (HA4.o.but hB4 (aH _));clear hB4 hX4 HY4 HA4;clear HX4 HC4 HB3;go_wp2_with fail;refine(e0x (s:=e6r) (t:=e6p) (by decide) (okQ e4s) _ (HG.o.bl HB4.o)).mono ?_;rintro e w5 ⟨rfl,hb5⟩;have HB5:=aB (HB4.o.call hb5);go_wp2_with fail;refine(e0x (s:=e6q) (t:=e6o) (by decide) (okQ e4r) _ (HG.o.bl HB5.o)).mono ?_;rintro e w6 ⟨rfl,hb6⟩;have HB6:=aB (HB5.o.call hb6);clear hb5 hb6;go_wp2_with (first
  |(go_at_call 9;(with_reducible refine(d7k _ _).mono ?_);rintro e w' ⟨rfl,rfl⟩))
 go_ret;exact⟨rfl,HB6.o⟩
end
end Go.Proofs.YtfkekkgfmhcanaaGreatDoor
