/- Texts Q9 RI MZ2 RN. -/
import Derived.Test.YtfkekkgfmhcanaaGreatDoorJ
import Derived.Test.YtfkekkgfmhcanaaGreatDoorK
import Derived.Test.YtfkekkgfmhcanaaGreatDoorD
import Derived.Test.YtfkekkgfmhcanaaGreatDoorE
import Derived.Test.YtfkekkgfmhcanaaGreatDoorF
import Derived.Test.YtfkekkgfmhcanaaGreatDoorI
namespace Go.Proofs.YtfkekkgfmhcanaaGreatDoor
open _root_.Go.Proofs.Tryz
open Go.RowKit
open _root_.And renaming intro->bT
open _root_.Array renaming getElem?_eq_some_iff->aC
open _root_.Go.RowKit.Below renaming grown->iL
open _root_.Go.Lib renaming cell_of_heap->aG,frozen_of_heap->aJ,hid->aB
open _root_.List renaming nil_append->cB
open _root_.Nat renaming le_refl->aH
open _root_.Or renaming inr->nA
open _root_.Go.World renaming setCell->dX
set_option maxRecDepth 100000
set_option maxHeartbeats 8000000
section
theorem e4p:(d2r e4q).1=261:=by simpa using e4o
theorem e4m:(d2r e4n).1=261:=by simpa using e4l
theorem d2z.open{s:List UInt8}{W:World}{e:Ending}{w':World}(h:d2z s W e w'):∃ai ni ci aj nj cj aw nw cw ag ng cg ah nh ch ao no co,e= .returned (.tuple #[QV (d2r s).2 (.slice ai ni ci) (.slice aj nj cj) (.slice aw nw cw) (.slice ag ng cg) (.slice ah nh ch) (.slice ao no co),.int .i64 (d2r s).1])/\Bl W w'/\
  d5o w' (d2r s).2 (QV (d2r s).2 (.slice ai ni ci) (.slice aj nj cj) (.slice aw nw cw) (.slice ag ng cg) (.slice ah nh ch) (.slice ao no co)):=by
 obtain⟨v,hv,rfl,hb⟩:=h;obtain⟨si,sj,sw,sg,sh,so,rfl,hp⟩:=id hv;obtain⟨ai,ci,aj,cj,aw,cw,ag,cg,ah,ch,ao,co,rfl,rfl,rfl,rfl,rfl,rfl⟩:=hp.slices;exact⟨_,_,_,_,_,_,_,_,_,_,_,_,_,_,_,_,_,_,rfl,hb,hv⟩
theorem d7k(n:Int)(w:World):eu 9 #[.int .i64 n] w fun e w'=>e= .returned (.int .i64 n)/\w=w':=by
 go_enter func9,ntmps9;go_wp2;go_ret;exact⟨rfl,rfl⟩
theorem e0x{s t:List UInt8}(hs:s.length<=9223372036854775807)(hk:OkQ s t)(W:World)(hG:nD W):eu 35 #[S s,S t] W fun e w'=>e= .returned (.bool true)/\Bl W w':=by
 have HX:Hid (∀W' v,Bl W W'->d5o W' (d2r s).2 v->eu 8 #[v] W' fun e w'=>e= .returned (.tuple #[S t,.int .i64 0])/\Bl W' w'):=fun W' v hb hv=>by
  have h:=e3l hk.ok hk.chk W' v hv (hG.bl hb);rw[hk.txt] at h;exact h
 have HP:Hid (eu 11 #[S s] W (d2z s W)):=d5l s hs W hG;have HN:=aB hk.no;clear hk hG;go_enter func35,ntmps35;go_wp2_with fail;refine HP.o.mono ?_;intro e w1 hp;obtain⟨ai,ni,ci,aj,nj,cj,aw,nw,cw,ag,ng,cg,ah,nh,ch,ao,no,co,rfl,hb1,hv⟩:=hp.open;rw[HN.o];have HV:=aB hv;have HB1:=aB hb1;clear HN HP hp hv hb1;generalize (d2r s).2=q at *;have HY2:=aB (aN w1 (.cells zQL.toArray 36));have HA2:=aB ((Bl.refl w1).alloc (.cells zQL.toArray 36));go_wp2_with (refine bA rfl rfl rfl rfl (quC q (.slice ai ni ci) (.slice aj nj cj) (.slice aw nw cw) (.slice ag ng cg) (.slice ah nh ch) (.slice ao no co)) HY2.o rfl rfl tC rfl ?_)
 intro w2 hB2 hX2;have HX2:=aB hX2;have HB2:=aB ((HB1.o).call (HA2.o.but hB2 (aH _)));have HC2:=aB (HA2.o.but hB2 (aH _));clear hB2 hX2 HY2 HA2;go_wp2_with (refine wpList_load_row rfl 36 (.tmp 5) rfl w1.heap.size rfl 36 _ (0,0) _ HX2.o underlying36 rfl tC ?_)
 go_wp2_with fail;refine(HX.o _ _ HB2.o (HV.o.bl HC2.o)).mono ?_;rintro e w3 ⟨rfl,hb3⟩;have HB3:=aB (HB2.o.call hb3);clear hb3 HX2;go_wp2_with (first
  |(go_at_call 9;(with_reducible refine(d7k _ _).mono ?_);rintro e w' ⟨rfl,rfl⟩))
 go_ret;exact⟨rfl,HB3.o⟩
theorem d7c(W:World)(hG:nD W):eu 7 #[] W fun e w'=>e= .returned (.bool true)/\Bl W w':=by
 have HG:=aB hG;clear hG;go_enter func7,ntmps7;go_wp2_with fail;refine(d5l e4q ak _ HG.o).mono ?_;intro e w1 hp;obtain⟨ai,ni,ci,aj,nj,cj,aw,nw,cw,ag,ng,cg,ah,nh,ch,ao,no,co,rfl,hb1,-⟩:=hp.open;rw[e4p];have HB1:=aB hb1;clear hp hb1;generalize (d2r e4q).2=q at *;have HY2:=aB (aN w1 (.cells zQL.toArray 36));have HA2:=aB ((Bl.refl w1).alloc (.cells zQL.toArray 36));go_wp2_with (refine bA rfl rfl rfl rfl (quC q (.slice ai ni ci) (.slice aj nj cj) (.slice aw nw cw) (.slice ag ng cg) (.slice ah nh ch) (.slice ao no co)) HY2.o rfl rfl tC rfl ?_)
 intro w2 hB2 hX2;have HX2:=aB hX2;have HB2:=aB ((HB1.o).call (HA2.o.but hB2 (aH _)));have HC2:=aB (HA2.o.but hB2 (aH _));clear hB2 hX2 HY2 HA2;clear HX2 HC2 HB1;go_wp2_with fail;refine(d5l e4n ak _ (HG.o.bl HB2.o)).mono ?_;intro e w3 hp;obtain⟨ai,ni,ci,aj,nj,cj,aw,nw,cw,ag,ng,cg,ah,nh,ch,ao,no,co,rfl,hb3,-⟩:=hp.open;rw[e4m];have HB3:=aB (HB2.o.call hb3);clear hp hb3;generalize (d2r e4n).2=q at *;have HY4:=aB (aN w3 (.cells zQL.toArray 36));have HA4:=aB ((Bl.refl w3).alloc (.cells zQL.toArray 36));go_wp2_with (refine bA rfl rfl rfl rfl (quC q (.slice ai ni ci) (.slice aj nj cj) (.slice aw nw cw) (.slice ag ng cg) (.slice ah nh ch) (.slice ao no co)) HY4.o rfl rfl tC rfl ?_)
 intro w4 hB4 hX4;have HX4:=aB hX4;have HB4:=aB ((HB3.o).call (HA4.o.but hB4 (aH _)));have HC4:=aB (HA4.o.but hB4 (aH _));clear hB4 hX4 HY4 HA4;clear HX4 HC4 HB3;go_wp2_with fail;refine(e0x (s:=e6r) (t:=e6p) ak (okQ e4s) _ (HG.o.bl HB4.o)).mono ?_;rintro e w5 ⟨rfl,hb5⟩;have HB5:=aB (HB4.o.call hb5);go_wp2_with fail;refine(e0x (s:=e6q) (t:=e6o) ak (okQ e4r) _ (HG.o.bl HB5.o)).mono ?_;rintro e w6 ⟨rfl,hb6⟩;have HB6:=aB (HB5.o.call hb6);clear hb5 hb6;go_wp2_with (first
  |(go_at_call 9;(with_reducible refine(d7k _ _).mono ?_);rintro e w' ⟨rfl,rfl⟩))
 go_ret;exact⟨rfl,HB6.o⟩
end
section
section
variable {P:Program}
theorem results_cells{fn:Func}{p:Tmp}{ty:TypeId}{q:Tmp}{u:TypeId}(h:fn.results= #[.cell p ty,.cell q u])(tmps:Array Value)(w:World)(b a:Addr)(v1 v2:Value)
  (hp:tmps.getD p undef= .pointer (some b)) (hr1:(loadVar ty b).run P w= .ok v1 w)
  (hq:tmps.getD q undef= .pointer (some a)) (hr2:(loadVar u a).run P w= .ok v2 w):(results fn tmps).run P w= .ok (.tuple #[v1,v2]) w:=by
 have hp':tmps[p]?.getD undef= .pointer (some b):=cR;have hq':tmps[q]?.getD undef= .pointer (some a):=(by simpa using hq);simp[results,h,hp',hq',asAddr,hr1,hr2]
end
theorem qItems1_any{A:World}{bs g cap k k0 X Sb Wb:Nat}{ts:List Tok}{v:Value}(hs:iV A bs g cap ts k)(hk:k0<ts.length)(hX:A.heap[X]?=some (.cells #[v] 22 (0,0)))(hS:A.heap[Sb]?=some (.cells #[.pointer (some ⟨bs,0,none⟩)] 47 (0,0)))(hW:A.heap[Wb]?=some (.cells #[.int .i64 (k0:Int)] 3 (0,0)))
  (h1:X≠Sb) (h2:X≠Wb) (h3:bs≠X) (h4:g≠X):
  eu 52 #[.pointer (some ⟨X,0,none⟩),.pointer (some ⟨Sb,0,none⟩),.pointer (some ⟨Wb,0,none⟩)] A fun e w'=>e= .returned (.tuple #[])/\(A.setCell ⟨X,0,none⟩ d2i).grownBy w' (some bs)/\iV w' bs g cap ts k0:=by
 have HSB:=aB (hs.set1 h3 h4 0 d2i);have HK:=aB hk;have a0:=cK hX;have z0:A.frozen? ⟨X,0,none⟩=false:=aJ hX 0;have c1:=cK ((aM A ⟨X,0,none⟩ d2i Sb (Ne.symm h1)).trans hS);have c2:=cK ((aM A ⟨X,0,none⟩ d2i Wb (Ne.symm h2)).trans hW);clear hs hX hk hS hW;go_enter func52,ntmps52;go_wp2_with fail;refine(b4r HSB.o (k0:Int)).mono ?_;rintro e w' ⟨hg,(⟨-,-,rfl,hs⟩|⟨hn,-,-⟩)⟩
 ·rw[Int.toNat_natCast] at hs;go_wp2;go_end0;exact⟨rfl,hg,hs⟩
 ·exact absurd ⟨by omega,by have:=HK.o;omega⟩ hn
theorem enters_qItems1(args:Array Value)(w:World):(callFunc 52 args).run prog w= .ok (.enter 52 args) w:=by
 simp[go_sem]
def QIPost(bs g cap:Nat)(ts:List Tok)(k:Nat)(W:World)(e:Ending)(w':World):Prop:=
 W.grownBy w' (some bs)/\((∃k' l v,readItems ts k= .good k' l/\iV w' bs g cap ts k'/\d2p fIt (fun b=>W.heap.size<=b) w' v l/\e= .returned (.tuple #[v,.int .i64 0]))\/
  (∃c,(c=260\/c=261\/c=270)/\readItems ts k= .bad c/\iV w' bs g cap ts k/\e= .returned (.tuple #[d2i,.int .i64 c])))
theorem FrD.setx{W A:World}{bs k:Nat}{T:TypeId}{u:Value}(h:FrD W A bs k T #[u])(v:Value):FrD W (A.setCell ⟨W.heap.size+1,0,none⟩ v) bs k T #[v]:=
 ⟨dP h.grown 0 aE _,(aM _ _ _ _ (by show W.heap.size≠W.heap.size+1;omega)).trans h.s,lN h.x 0 v,(aM _ _ _ _ eE).trans h.e,(aM _ _ _ _ (by show W.heap.size+3≠W.heap.size+1;omega)).trans h.q⟩
theorem FrD.bl{W A B:World}{bs k:Nat}{T:TypeId}{cs:Array Value}(h:FrD W A bs k T cs)(hb:bs<W.heap.size)(hB:Bl A B):FrD W B bs k T cs:=h.next hb (gI hB _)
theorem qItems_any{W:World}{bs g cap k:Nat}{ts:List Tok}(h:iV W bs g cap ts k)(hT:lC ts):eu 15 #[.pointer (some ⟨bs,0,none⟩)] W (QIPost bs g cap ts k W):=by
 have H:=aB h;have HT:=aB hT;have hbl:=h.lt';have hgl:=h.gl;have hmf:∀(fn:Fn) (first cap:Array Value) (w:World),(Instr.makeFunc fn first cap).run prog w= .ok (.func fn first cap) w:=fun _ _ _ _=>rfl;have HF0:=aB (FrD.start W bs k 22 #[d2i]);have HB0:=aB (((Bl.refl W).alloc (.cells #[.pointer (some ⟨bs,0,none⟩)] 47)).alloc (.cells #[d2i] 22) |>.alloc (.cells #[.int .i64 0] 39));clear h hT
 go_enter_defers func15,ntmps15
 go_wp2_with fail
 (with_reducible refine(b9a (H.o.bl HB0.o)).mono ?_)
 rintro e w1 ⟨rfl,rfl⟩;go_wp2_with fail;refine(e1v (((H.o.bl HB0.o).bl ((Bl.refl _).alloc _)).bl ((Bl.refl _).alloc _)) HT.o).mono ?_;intro e w5 hp;obtain⟨hg5,k5,hs5,hcase⟩:=hp;have HF5:=aB ((HF0.o.bl hbl ((Bl.refl _).alloc _)).next hbl hg5);have HS5:=aB hs5;have hz5:=HF5.o.size;rcases hcase with⟨l,v,hr5,hrow,rfl⟩|⟨c,hc,hr5,rfl⟩
 rotate_left
 ·have HR5:=aB (show readItems ts k= .bad c from by unfold readItems d7m;rw[hr5];rfl);have HC:=aB hc;clear hg5 hs5 hr5 hc;go_wp2_with fail;refine leaves_cons (f:=51) (args:= #[.pointer (some ⟨W.heap.size+2,0,none⟩),.func (.func 52) #[] #[.pointer (some ⟨W.heap.size+1,0,none⟩),.pointer (some ⟨W.heap.size,0,none⟩),.pointer (some ⟨W.heap.size+3,0,none⟩)]]) aa am ?_;have hclear:=qItems1_any (A:=(w5).setCell ⟨W.heap.size+2,0,none⟩ (.int .i64 c)) (X:=W.heap.size+1) (Sb:=W.heap.size) (Wb:=W.heap.size+3) (v:=d2i) (HS5.o.set1 aE aE _ _) H.o.lt ((aM _ ⟨W.heap.size+2,0,none⟩ _ _ be).trans HF5.o.x) ((aM _ ⟨W.heap.size+2,0,none⟩ _ _ cL).trans HF5.o.s) ((aM _ ⟨W.heap.size+2,0,none⟩ _ _ cV).trans HF5.o.q) aE aE aE aE;refine(d8s ⟨W.heap.size+2,0,none⟩ 0 c 52 #[] #[.pointer (some ⟨W.heap.size+1,0,none⟩),.pointer (some ⟨W.heap.size,0,none⟩),.pointer (some ⟨W.heap.size+3,0,none⟩)] #[.pointer (some ⟨W.heap.size+1,0,none⟩),.pointer (some ⟨W.heap.size,0,none⟩),.pointer (some ⟨W.heap.size+3,0,none⟩)] aa (w5) _ (cK HF5.o.e) (aJ HF5.o.e 0) enters_qItems1 hclear).mono ?_;rintro e u' w6 ⟨rfl,rfl,hg6,hs6⟩;have hx6:=(hg6.block (W.heap.size+1) (by simp[dX];have:=HF5.o.size;omega) (fun e=>by injection e with e;omega)).trans (lN ((aM _ ⟨W.heap.size+2,0,none⟩ _ _ be).trans HF5.o.x) 0 d2i);have he6:=(hg6.block (W.heap.size+2) (by simp[dX];have:=HF5.o.size;omega) (fun e=>by injection e with e;omega)).trans ((aM _ ⟨W.heap.size+1,0,none⟩ _ _ eE).trans (lN HF5.o.e 0 (.int .i64 c)));have r0:w6.cell? ⟨W.heap.size+2,0,none⟩=some (.int .i64 c):=(by rw[aG he6];rfl);have r1:w6.cell? ⟨W.heap.size+1,0,none⟩=some d2i:=(by rw[aG hx6];rfl);refine⟨.tuple #[d2i,.int .i64 c],?_,dA (dP (dP HF5.o.grown 0 aE _) 0 aE _) hg6,.inr ⟨c,HC.o,HR5.o,hs6,rfl⟩⟩;exact results_cells rfl _ _ ⟨W.heap.size+1,0,none⟩ ⟨W.heap.size+2,0,none⟩ _ _ rfl (by simp[go_sem,r1]) rfl cX
 obtain⟨ai,ci,rfl,-⟩:=hrow.shape;have HR5:=aB hr5;have HP5:=aB (show d2p fIt (fun b=>W.heap.size+4<=b) w5 (.slice ai l.length ci) l from hrow.of fun b _ (hb:_<=b)=>by simp at hb;omega);clear hg5 hs5 hr5 hrow;have c0:=cK HF5.o.x;have z0:w5.frozen? ⟨W.heap.size+1,0,none⟩=false:=aJ HF5.o.x 0;have HF6:=aB (HF5.o.setx (.slice ai l.length ci));have HS6:=aB (HS5.o.set1 (b:=W.heap.size+1) aE aE 0 (.slice ai l.length ci));have c6:=cK HF6.o.x;have z6:(w5.setCell ⟨W.heap.size+1,0,none⟩ (.slice ai l.length ci)).frozen? ⟨W.heap.size+1,0,none⟩=false:=aJ HF6.o.x 0;go_wp2_with fail;by_cases hl:l.length<=32;rotate_left
 ·have HR6:=aB (show readItems ts k= .bad 270 from by unfold readItems d7m;rw[HR5.o];show(if _ then _ else _)=_;rw[if_pos aE]);rw[show decide ((l.length:Int)<=32)=false from decide_eq_false aE];refine(d3t _ _).mono ?_;rintro e w7 ⟨rfl,rfl⟩;go_wp2_with fail;refine leaves_cons (f:=51) (args:= #[.pointer (some ⟨W.heap.size+2,0,none⟩),.func (.func 52) #[] #[.pointer (some ⟨W.heap.size+1,0,none⟩),.pointer (some ⟨W.heap.size,0,none⟩),.pointer (some ⟨W.heap.size+3,0,none⟩)]]) aa am ?_;have hclear:=qItems1_any (A:=(w5.setCell ⟨W.heap.size+1,0,none⟩ (.slice ai l.length ci)).setCell ⟨W.heap.size+2,0,none⟩ (.int .i64 270)) (X:=W.heap.size+1) (Sb:=W.heap.size) (Wb:=W.heap.size+3) (v:=(.slice ai l.length ci)) (HS6.o.set1 aE aE _ _) H.o.lt ((aM _ ⟨W.heap.size+2,0,none⟩ _ _ be).trans HF6.o.x) ((aM _ ⟨W.heap.size+2,0,none⟩ _ _ cL).trans HF6.o.s) ((aM _ ⟨W.heap.size+2,0,none⟩ _ _ cV).trans HF6.o.q) aE aE aE aE;refine(d8s ⟨W.heap.size+2,0,none⟩ 0 270 52 #[] #[.pointer (some ⟨W.heap.size+1,0,none⟩),.pointer (some ⟨W.heap.size,0,none⟩),.pointer (some ⟨W.heap.size+3,0,none⟩)] #[.pointer (some ⟨W.heap.size+1,0,none⟩),.pointer (some ⟨W.heap.size,0,none⟩),.pointer (some ⟨W.heap.size+3,0,none⟩)] aa (w5.setCell ⟨W.heap.size+1,0,none⟩ (.slice ai l.length ci)) _ (cK HF6.o.e) (aJ HF6.o.e 0) enters_qItems1 hclear).mono ?_;rintro e u' w6 ⟨rfl,rfl,hg6,hs6⟩;have hx6:=(hg6.block (W.heap.size+1) (by simp[dX];have:=HF6.o.size;omega) (fun e=>by injection e with e;omega)).trans (lN ((aM _ ⟨W.heap.size+2,0,none⟩ _ _ be).trans HF6.o.x) 0 d2i);have he6:=(hg6.block (W.heap.size+2) (by simp[dX];have:=HF6.o.size;omega) (fun e=>by injection e with e;omega)).trans ((aM _ ⟨W.heap.size+1,0,none⟩ _ _ eE).trans (lN HF6.o.e 0 (.int .i64 270)));have r0:w6.cell? ⟨W.heap.size+2,0,none⟩=some (.int .i64 270):=(by rw[aG he6];rfl);have r1:w6.cell? ⟨W.heap.size+1,0,none⟩=some d2i:=(by rw[aG hx6];rfl);refine⟨.tuple #[d2i,.int .i64 270],?_,dA (dP (dP HF6.o.grown 0 aE _) 0 aE _) hg6,.inr ⟨270,(nA (nA rfl)),HR6.o,hs6,rfl⟩⟩;exact results_cells rfl _ _ ⟨W.heap.size+1,0,none⟩ ⟨W.heap.size+2,0,none⟩ _ _ rfl (by simp[go_sem,r1]) rfl cX
 rw[show decide ((l.length:Int)<=32)=true from decide_eq_true aE];refine(d5e _ _).mono ?_;rintro e w7 ⟨rfl,rfl⟩;have HR6:=aB (show readItems ts k= .good k5 l from by unfold readItems d7m;rw[HR5.o];show(if _ then _ else _)=_;rw[if_neg aE]);have HP6:Hid (d2p fIt (fun b=>W.heap.size+4<=b) (w5.setCell ⟨W.heap.size+1,0,none⟩ (.slice ai l.length ci)) (.slice ai l.length ci) l):=HP5.o.keep (by simp[dX]) (fun _ h=>h) fun i (hi:W.heap.size+4<=i) _=>aM _ _ _ _ (by show i≠W.heap.size+1;omega);clear c0 z0 HP5 HS5 HF5 hz5 hl;generalize w5.setCell ⟨W.heap.size+1,0,none⟩ (.slice ai l.length ci)=w6 at *;have hz6:=HF6.o.size;have HF7:=aB (HF6.o.setx (.slice ai l.length ci));have HS7:=aB (HS6.o.set1 (b:=W.heap.size+1) aE aE 0 (.slice ai l.length ci));have HP7:Hid (d2p fIt (fun b=>W.heap.size+4<=b) (w6.setCell ⟨W.heap.size+1,0,none⟩ (.slice ai l.length ci)) (.slice ai l.length ci) l):=HP6.o.keep (by simp[dX]) (fun _ h=>h) fun i (hi:W.heap.size+4<=i) _=>aM _ _ _ _ (by show i≠W.heap.size+1;omega);have c8:=cK HF7.o.e;have z8:(w6.setCell ⟨W.heap.size+1,0,none⟩ (.slice ai l.length ci)).frozen? ⟨W.heap.size+2,0,none⟩=false:=aJ HF7.o.e 0;go_wp2_with fail;refine leaves_cons (f:=51) (args:= #[.pointer (some ⟨W.heap.size+2,0,none⟩),.func (.func 52) #[] #[.pointer (some ⟨W.heap.size+1,0,none⟩),.pointer (some ⟨W.heap.size,0,none⟩),.pointer (some ⟨W.heap.size+3,0,none⟩)]]) aa am ?_;refine(d9i _ _ _).mono ?_;rintro e u' w'' ⟨rfl,rfl,rfl⟩;clear c6 z6 c8 z8;have hz7:=HF7.o.size;generalize w6.setCell ⟨W.heap.size+1,0,none⟩ (.slice ai l.length ci)=w7 at *;have r1:=cK (x:= .slice ai l.length ci) ((aM w7 ⟨W.heap.size+2,0,none⟩ (.int .i64 0) (W.heap.size+1) be).trans HF7.o.x);have r0:=cK (x:= .int .i64 0) (lN HF7.o.e 0 (.int .i64 0));refine⟨.tuple #[.slice ai l.length ci,.int .i64 0],?_,dP HF7.o.grown 0 aE _,.inl ⟨k5,l,_,HR6.o,HS7.o.set1 aE aE _ _,?_,rfl⟩⟩
 ·exact results_cells rfl _ _ ⟨W.heap.size+1,0,none⟩ ⟨W.heap.size+2,0,none⟩ _ _ rfl (by simp[go_sem,r1]) rfl cX
 ·exact HP7.o.keep (by simp[dX]) (fun b (hb:W.heap.size+4<=b)=>by show W.heap.size<=b;omega) fun i (hi:W.heap.size+4<=i) _=>aM _ _ _ _ (by show i≠W.heap.size+2;omega)
end
section
abbrev RN:Value:= .agg #[.pointer none]
abbrev d1j(fn:FuncId):Prop:=∀(W:World) (d:Int),eu fn #[RN,.int .i64 d] W fun e w'=>e=Pan 261/\Bl W w'
theorem d0u:d1j 314:=fun W d=>by
 go_enter func314,ntmps314;have HB0:=aB (((Bl.refl W).alloc (.cells #[.pointer none] 243)).alloc (.cells #[.int .i64 0,.int .i64 0,.int .i64 0,S [],S [],S [],.int .i64 0,.slice none 0 0] 33));have hR0:=(aW (W.alloc (.cells #[.pointer none] 243)) (.cells #[.int .i64 0,.int .i64 0,.int .i64 0,S [],S [],S [],.int .i64 0,.slice none 0 0] 33) aa).trans (aN W _);have HR0:=aB hR0;clear hR0;go_wp2_with fail
 (with_reducible refine(a1c (W:=_) (p:=none) cF).mono ?_)
 rintro e w1 ⟨rfl,hb1⟩;have HB1:=aB (HB0.o.call hb1);have hR1:=(hb1.block W.heap.size af).trans HR0.o;have p0:=cK hR1;have pz:=(aC.1 hR1).1;clear hb1;have HA:=aB (((Bl.refl w1).alloc (.cells #[.int .i64 0,.int .i64 0,S [],.int .i64 0,.int .i64 0,S []] 66)).alloc (.cells #[S kE,S nW,S gN] 9));have HR1:=aB hR1;clear hR1;go_wp2_with fail;go_loopw [27] (fun i wr=>∃j:Nat,j<=3/\i= .int .i64 (j:Int)/\Hid (Bl W wr)/\Hid (wr.heap[W.heap.size]?=some (.cells #[.pointer none] 243 (0,0)))/\Hid (wr.heap[w1.heap.size+1]?=some (.cells #[S kE,S nW,S gN] 9 (0,0)))) (fun i _=>3-(intOf i).toNat)
 case atStart=>exact⟨0,by omega,rfl,HB1.o.call HA.o,(HA.o.block _ pz).trans HR1.o,aV _ _ aa⟩
 case round=>
  clear p0 pz;obtain⟨j,hj,rfl,HB,HR,HL⟩:=hrel;have p0:=cK HR.o;have pz:=(aC.1 HR.o).1;by_cases hlt:j<3
  ·have c:wr.cell? ⟨w1.heap.size+1,j,none⟩=some (S (a6h[j]'hlt)):=by
    rw[aG HL.o]
    match j,hlt with
    |0,_=>rfl
    |1,_=>rfl
    |2,_=>rfl
   have hzl:=(aC.1 HL.o).1;generalize a6h[j]'hlt=s at *;have hlt':(j:Int)<3:=aE;go_wp2_with fail;refine(b1l (W:=_) (p:=none) cF _ _ _).mono ?_;rintro e w2 ⟨rfl,hb2⟩;have HB2:=aB (((Bl.refl wr).alloc _).call hb2);clear hb2;go_wp2;go_roundw
   case rel=>exact⟨j+1,by omega,by go_num,HB.o.call HB2.o,(HB2.o.block _ pz).trans HR.o,(HB2.o.block _ hzl).trans HL.o⟩
   case measure=>simp[intOf];omega
  ·obtain rfl:j=3:=by omega
   go_wp2_with fail;refine(b1l (W:=_) (p:=none) cF _ _ _).mono ?_;rintro e w2 ⟨rfl,hb2⟩;have HB2:=aB (((Bl.refl wr).alloc _).call hb2);have q0:=cK ((HB2.o.block _ pz).trans HR.o);clear hb2 p0;go_wp2_with fail
   (with_reducible refine(a9c (W:=_) (p:=none) cF).mono ?_)
   rintro e w3 ⟨rfl,hb3⟩;go_wp2_with fail
   (with_reducible refine(rX _ _).mono ?_)
   rintro e w5 ⟨rfl,rfl⟩;go_wp2;exact⟨rfl,rfl,(HB.o.call HB2.o).call hb3⟩
theorem d1f:d1j 298:=fun W d=>by
 go_enter func298,ntmps298;have HB0:=aB (((Bl.refl W).alloc (.cells #[.pointer none] 243)).alloc (.cells #[.int .i64 0,.int .i64 0,.int .i64 0,S [],S [],S [],.int .i64 0,.slice none 0 0] 33));have hR0:=(aW (W.alloc (.cells #[.pointer none] 243)) (.cells #[.int .i64 0,.int .i64 0,.int .i64 0,S [],S [],S [],.int .i64 0,.slice none 0 0] 33) aa).trans (aN W _);have HR0:=aB hR0;clear hR0;go_wp2_with fail;refine(b1l (W:=_) (p:=none) cF _ _ _).mono ?_;rintro e w1 ⟨rfl,hb1⟩;have HB1:=aB (((Bl.refl _).alloc _).call hb1);have hR1:=(HB1.o.block W.heap.size af).trans HR0.o;have p0:=cK hR1;clear hb1;go_wp2_with fail
 (with_reducible refine(d0u _ _).mono ?_)
 rintro e w2 ⟨rfl,hb2⟩;go_wp2;exact⟨rfl,rfl,(HB0.o.call HB1.o).call hb2⟩
theorem a2v(fn:FuncId)(hf:d1j fn)(hen:∀(args:Array Value) (w:World),(callFunc fn args).run prog w= .ok (.enter fn args) w)(W:World)(d:Int)(a:Option Addr)(n c:Nat):eu 270 #[RN,.int .i64 d,.func (.func fn) #[] #[],.slice a n c] W fun e w'=>e=Pan 261/\Bl W w':=by
 have HF:=aB hf;clear hf;go_enter func270,ntmps270;have HB0:=aB (((Bl.refl W).alloc (.cells #[.pointer none] 243)).alloc (.cells #[.int .i64 0,.int .i64 0,.int .i64 0,S [],S [],S [],.int .i64 0,.slice none 0 0] 33));have hR0:=(aW (W.alloc (.cells #[.pointer none] 243)) (.cells #[.int .i64 0,.int .i64 0,.int .i64 0,S [],S [],S [],.int .i64 0,.slice none 0 0] 33) aa).trans (aN W _);have HR0:=aB hR0;clear hR0;go_wp2_with fail;refine(HF.o _ _).mono ?_;rintro e w2 ⟨rfl,hb2⟩;go_wp2;exact⟨rfl,rfl,HB0.o.call hb2⟩
theorem c8x:d1j 274:=fun W d=>by
 go_enter func274,ntmps274;have HB0:=aB (((Bl.refl W).alloc (.cells #[.pointer none] 243)).alloc (.cells #[.int .i64 0,.int .i64 0,.int .i64 0,S [],S [],S [],.int .i64 0,.slice none 0 0] 33));have hR0:=(aW (W.alloc (.cells #[.pointer none] 243)) (.cells #[.int .i64 0,.int .i64 0,.int .i64 0,S [],S [],S [],.int .i64 0,.slice none 0 0] 33) aa).trans (aN W _);have HR0:=aB hR0;clear hR0;go_wp2_with fail;refine(a2v 298 d1f (rR 7) _ _ _ _ _).mono ?_;rintro e w2 ⟨rfl,hb2⟩;go_wp2;exact⟨rfl,rfl,(HB0.o.alloc _).call hb2⟩
theorem d0m:d1j 242:=fun W d=>by
 go_enter func242,ntmps242;have HB0:=aB (((Bl.refl W).alloc (.cells #[.pointer none] 243)).alloc (.cells #[.int .i64 0,.int .i64 0,.int .i64 0,S [],S [],S [],.int .i64 0,.slice none 0 0] 33));have hR0:=(aW (W.alloc (.cells #[.pointer none] 243)) (.cells #[.int .i64 0,.int .i64 0,.int .i64 0,S [],S [],S [],.int .i64 0,.slice none 0 0] 33) aa).trans (aN W _);have HR0:=aB hR0;clear hR0;go_wp2_with fail;refine(a2v 274 c8x (rR 6) _ _ _ _ _).mono ?_;rintro e w2 ⟨rfl,hb2⟩;go_wp2;exact⟨rfl,rfl,(HB0.o.alloc _).call hb2⟩
end
section
theorem pY{A B:World}{b:Nat}{o:Obj}(h:A.heap[b]?=some o)(hb:Bl A B):B.heap[b]?=some o:=(hb.block _ (aC.1 h).1).trans h
theorem d1p:d1j 241:=fun W d=>by
 go_enter func241,ntmps241;have HB0:=aB (((Bl.refl W).alloc (.cells #[.pointer none] 243)).alloc (.cells #[.int .i64 0,.int .i64 0,.int .i64 0,S [],S [],S [],.int .i64 0,.slice none 0 0] 33));have hR0:=(aW (W.alloc (.cells #[.pointer none] 243)) (.cells #[.int .i64 0,.int .i64 0,.int .i64 0,S [],S [],S [],.int .i64 0,.slice none 0 0] 33) aa).trans (aN W _);have HR0:=aB hR0;clear hR0;go_wp2_with fail;refine(bM (fun B=>B.heap[W.heap.size]?=some (.cells #[.pointer none] 243 (0,0))) (.take 0 (.take 1 (.two 2 4 (.take 3 (.one 4 (.one 5 (.one 6 .done)))) (.one 2 (.take 3 (.one 5 (.one 6 .done))))))) ab ab ab (fun c a d v w h=>by cases d<;>exact h) (pY HR0.o ((Bl.refl _).drew)) ?_);intro wd HWD hY;iterate 2 (refine cT ?_)
 refine sZ ?_ ?_
 focus
  refine aL rfl (fun K hK=>?_);go_simp;((with_reducible refine(jK _).mono ?_);rintro e w2 ⟨rfl,hb2⟩;have HB2:=aB ((HB0.o.call HWD.o).call hb2));go_wp2_with fail;refine hK.o _ _ ((pY hY hb2)) ?_;clear hY hK K;intro hY;refine cT ?_;refine aL rfl (fun K hK=>?_);go_simp;refine hK.o _ _ ((pY hY ((Bl.refl _).alloc _))) ?_;clear hY hK K;intro hY;refine aL rfl (fun K hK=>?_);go_simp;refine(a2v 242 d0m (rR 5) _ _ _ _ _).mono ?_;rintro e w5 ⟨rfl,hb5⟩;go_wp2;exact⟨rfl,rfl,(HB2.o.alloc _).call hb5⟩
 focus
  refine aL rfl (fun K hK=>?_);go_simp;refine hK.o _ _ ((pY hY ((Bl.refl _).alloc _))) ?_;clear hY hK K;intro hY;refine aL rfl (fun K hK=>?_);go_simp;((with_reducible refine(jK _).mono ?_);rintro e w2 ⟨rfl,hb2⟩;have HB2:=aB (((HB0.o.call HWD.o).alloc _).call hb2));go_wp2_with fail;refine hK.o _ _ ((pY hY hb2)) ?_;clear hY hK K;intro hY;refine cT ?_;refine aL rfl (fun K hK=>?_);go_simp;refine(a2v 242 d0m (rR 5) _ _ _ _ _).mono ?_;rintro e w5 ⟨rfl,hb5⟩;go_wp2;exact⟨rfl,rfl,HB2.o.call hb5⟩
theorem c8g:d1j 240:=fun W d=>by
 go_enter func240,ntmps240;have HB0:=aB (((Bl.refl W).alloc (.cells #[.pointer none] 243)).alloc (.cells #[.int .i64 0,.int .i64 0,.int .i64 0,S [],S [],S [],.int .i64 0,.slice none 0 0] 33));have hR0:=(aW (W.alloc (.cells #[.pointer none] 243)) (.cells #[.int .i64 0,.int .i64 0,.int .i64 0,S [],S [],S [],.int .i64 0,.slice none 0 0] 33) aa).trans (aN W _);have HR0:=aB hR0;clear hR0;go_wp2_with fail
 (with_reducible refine(d1p _ _).mono ?_)
 rintro e w2 ⟨rfl,hb2⟩;go_wp2;exact⟨rfl,rfl,HB0.o.call hb2⟩
theorem d0n:d1j 239:=fun W d=>by
 go_enter func239,ntmps239;have HB0:=aB (((Bl.refl W).alloc (.cells #[.pointer none] 243)).alloc (.cells #[.int .i64 0,.int .i64 0,.int .i64 0,S [],S [],S [],.int .i64 0,.slice none 0 0] 33));have hR0:=(aW (W.alloc (.cells #[.pointer none] 243)) (.cells #[.int .i64 0,.int .i64 0,.int .i64 0,S [],S [],S [],.int .i64 0,.slice none 0 0] 33) aa).trans (aN W _);have HR0:=aB hR0;clear hR0;go_wp2_with fail;refine(b1l (W:=_) (p:=none) cF _ _ _).mono ?_;rintro e w1 ⟨rfl,hb1⟩;have HB1:=aB (((Bl.refl _).alloc _).call hb1);have HR1:=aB (pY HR0.o HB1.o);clear hb1;go_wp2_with fail;refine(bM (fun B=>B.heap[W.heap.size]?=some (.cells #[.pointer none] 243 (0,0))) (.take 2 (.take 3 (.one 0 (.take 1 (.one 4 (.one 5 .done)))))) ab ab ab (fun c a d v w h=>by cases d<;>exact h) (pY HR1.o ((Bl.refl _).drew)) ?_);intro wd HWD hY;iterate 2 (refine cT ?_)
 refine aL rfl (fun K hK=>?_);go_simp;((with_reducible refine(jK _).mono ?_);rintro e w2 ⟨rfl,hb2⟩;have HB2:=aB (((HB0.o.call HB1.o).call HWD.o).call hb2));go_wp2_with fail;refine hK.o _ _ ((pY hY hb2)) ?_;clear hY hK K;intro hY;refine cT ?_;refine aL rfl (fun K hK=>?_);go_simp;refine(c8g _ _).mono ?_;rintro e w5 ⟨rfl,hb5⟩;go_wp2;exact⟨rfl,rfl,HB2.o.call hb5⟩
theorem d0o:d1j 238:=fun W d=>by
 go_enter func238,ntmps238;have HB0:=aB (((Bl.refl W).alloc (.cells #[.pointer none] 243)).alloc (.cells #[.int .i64 0,.int .i64 0,.int .i64 0,S [],S [],S [],.int .i64 0,.slice none 0 0] 33));have hR0:=(aW (W.alloc (.cells #[.pointer none] 243)) (.cells #[.int .i64 0,.int .i64 0,.int .i64 0,S [],S [],S [],.int .i64 0,.slice none 0 0] 33) aa).trans (aN W _);have HR0:=aB hR0;clear hR0;go_wp2_with fail;refine(bM (fun B=>B.heap[W.heap.size]?=some (.cells #[.pointer none] 243 (0,0))) (.take 0 (.take 1 (.two 2 4 (.take 3 (.one 4 (.one 5 (.one 6 .done)))) (.one 2 (.take 3 (.one 5 (.one 6 .done))))))) ab ab ab (fun c a d v w h=>by cases d<;>exact h) (pY HR0.o ((Bl.refl _).drew)) ?_);intro wd HWD hY;iterate 2 (refine cT ?_)
 refine sZ ?_ ?_
 focus
  refine aL rfl (fun K hK=>?_);go_simp;((with_reducible refine(jK _).mono ?_);rintro e w2 ⟨rfl,hb2⟩;have HB2:=aB ((HB0.o.call HWD.o).call hb2));go_wp2_with fail;refine hK.o _ _ ((pY hY hb2)) ?_;clear hY hK K;intro hY;refine cT ?_;refine aL rfl (fun K hK=>?_);go_simp;refine hK.o _ _ ((pY hY ((Bl.refl _).alloc _))) ?_;clear hY hK K;intro hY;refine aL rfl (fun K hK=>?_);go_simp;refine(a2v 239 d0n (rR 2) _ _ _ _ _).mono ?_;rintro e w5 ⟨rfl,hb5⟩;go_wp2;exact⟨rfl,rfl,(HB2.o.alloc _).call hb5⟩
 focus
  refine aL rfl (fun K hK=>?_);go_simp;refine hK.o _ _ ((pY hY ((Bl.refl _).alloc _))) ?_;clear hY hK K;intro hY;refine aL rfl (fun K hK=>?_);go_simp;((with_reducible refine(jK _).mono ?_);rintro e w2 ⟨rfl,hb2⟩;have HB2:=aB (((HB0.o.call HWD.o).alloc _).call hb2));go_wp2_with fail;refine hK.o _ _ ((pY hY hb2)) ?_;clear hY hK K;intro hY;refine cT ?_;refine aL rfl (fun K hK=>?_);go_simp;refine(a2v 239 d0n (rR 2) _ _ _ _ _).mono ?_;rintro e w5 ⟨rfl,hb5⟩;go_wp2;exact⟨rfl,rfl,HB2.o.call hb5⟩
theorem d2a:d1j 237:=fun W d=>by
 go_enter func237,ntmps237;have HB0:=aB (((Bl.refl W).alloc (.cells #[.pointer none] 243)).alloc (.cells #[.int .i64 0,.int .i64 0,.int .i64 0,S [],S [],S [],.int .i64 0,.slice none 0 0] 33));have hR0:=(aW (W.alloc (.cells #[.pointer none] 243)) (.cells #[.int .i64 0,.int .i64 0,.int .i64 0,S [],S [],S [],.int .i64 0,.slice none 0 0] 33) aa).trans (aN W _);have HR0:=aB hR0;clear hR0;go_wp2_with fail;refine(bM (fun B=>B.heap[W.heap.size]?=some (.cells #[.pointer none] 243 (0,0))) (.take 0 (.take 1 (.two 2 4 (.take 3 (.one 4 (.one 5 (.one 6 .done)))) (.one 2 (.take 3 (.one 5 (.one 6 .done))))))) ab ab ab (fun c a d v w h=>by cases d<;>exact h) (pY HR0.o ((Bl.refl _).drew)) ?_);intro wd HWD hY;iterate 2 (refine cT ?_)
 refine sZ ?_ ?_
 focus
  refine aL rfl (fun K hK=>?_);go_simp;((with_reducible refine(jK _).mono ?_);rintro e w2 ⟨rfl,hb2⟩;have HB2:=aB ((HB0.o.call HWD.o).call hb2));go_wp2_with fail;refine hK.o _ _ ((pY hY hb2)) ?_;clear hY hK K;intro hY;refine cT ?_;refine aL rfl (fun K hK=>?_);go_simp;refine hK.o _ _ ((pY hY ((Bl.refl _).alloc _))) ?_;clear hY hK K;intro hY;refine aL rfl (fun K hK=>?_);go_simp;refine(a2v 238 d0o (rR 1) _ _ _ _ _).mono ?_;rintro e w5 ⟨rfl,hb5⟩;go_wp2;exact⟨rfl,rfl,(HB2.o.alloc _).call hb5⟩
 focus
  refine aL rfl (fun K hK=>?_);go_simp;refine hK.o _ _ ((pY hY ((Bl.refl _).alloc _))) ?_;clear hY hK K;intro hY;refine aL rfl (fun K hK=>?_);go_simp;((with_reducible refine(jK _).mono ?_);rintro e w2 ⟨rfl,hb2⟩;have HB2:=aB (((HB0.o.call HWD.o).alloc _).call hb2));go_wp2_with fail;refine hK.o _ _ ((pY hY hb2)) ?_;clear hY hK K;intro hY;refine cT ?_;refine aL rfl (fun K hK=>?_);go_simp;refine(a2v 238 d0o (rR 1) _ _ _ _ _).mono ?_;rintro e w5 ⟨rfl,hb5⟩;go_wp2;exact⟨rfl,rfl,HB2.o.call hb5⟩
theorem d0v{A:World}{X Sb Wb:Nat}{x0 x1 x2 x3 x4 x5 x6 x7:Value}(hX:A.heap[X]?=some (.cells #[x0,x1,x2,x3,x4,x5,x6,x7] 33 (0,0)))(hS:A.heap[Sb]?=some (.cells #[.pointer none] 47 (0,0)))(hW:A.heap[Wb]?=some (.cells #[.int .i64 0] 3 (0,0)))
  (h1:X≠Sb) (h2:X≠Wb):
  eu 203 #[.pointer (some ⟨X,0,none⟩),.pointer (some ⟨Sb,0,none⟩),.pointer (some ⟨Wb,0,none⟩)] A fun e w'=>e= .returned (.tuple #[])/\d0w A X=w':=by
 obtain⟨⟨e0,e1,e2,e3,e4,e5,e6,e7⟩,f0,f1,f2,f3,f4,f5,f6,f7⟩:=eight hX;have c1:=cK hS;have c2:=cK hW;have d1:=cK ((bP A (Ne.symm h1) (.int .i64 0) (.int .i64 0) (.int .i64 0) (S []) (S []) (S []) (.int .i64 0) (.slice none 0 0)).trans hS);have d2:=cK ((bP A (Ne.symm h2) (.int .i64 0) (.int .i64 0) (.int .i64 0) (S []) (S []) (S []) (.int .i64 0) (.slice none 0 0)).trans hW);clear hX hS hW;go_enter func203,ntmps203;go_wp2_with fail
 (with_reducible refine(c2r (W:=_) (p:=none) cF).mono ?_)
 rintro e w' ⟨rfl,rfl⟩;go_wp2;go_end0;exact⟨rfl,rfl⟩
theorem d1g(W:World):eu 172 #[.pointer none] W fun e w'=>e= .returned (.tuple #[zV,.int .i64 261])/\Bl W w':=by
 have hmf:∀(fn:Fn) (first cap:Array Value) (w:World),(Instr.makeFunc fn first cap).run prog w= .ok (.func fn first cap) w:=fun _ _ _ _=>rfl;have HB0:=aB (((Bl.refl W).alloc (.cells #[.pointer none] 47)).alloc (.cells zC 33) |>.alloc (.cells #[.int .i64 0] 39) |>.alloc (.cells #[.int .i64 0] 3));have HS0:=aB ((aW (((W.alloc (.cells #[.pointer none] 47)).alloc (.cells zC 33)).alloc (.cells #[.int .i64 0] 39)) (.cells #[.int .i64 0] 3) cC).trans (uA W (.cells #[.pointer none] 47) (.cells zC 33) (.cells #[.int .i64 0] 39)));have HX0:=aB ((aW (((W.alloc (.cells #[.pointer none] 47)).alloc (.cells zC 33)).alloc (.cells #[.int .i64 0] 39)) (.cells #[.int .i64 0] 3) cC).trans (oZ W (.cells #[.pointer none] 47) (.cells zC 33) (.cells #[.int .i64 0] 39)));have HE0:=aB ((aW (((W.alloc (.cells #[.pointer none] 47)).alloc (.cells zC 33)).alloc (.cells #[.int .i64 0] 39)) (.cells #[.int .i64 0] 3) aa).trans (aV ((W.alloc (.cells #[.pointer none] 47)).alloc (.cells zC 33)) (.cells #[.int .i64 0] 39) (k:=W.heap.size+2) aa));have HW0:=aB (aV (((W.alloc (.cells #[.pointer none] 47)).alloc (.cells zC 33)).alloc (.cells #[.int .i64 0] 39)) (.cells #[.int .i64 0] 3) (k:=W.heap.size+3) aa);have HQ:Hid (∀(c:_) (a:Act) (d:Nat) (v:Value) (w:World),8<=d->Leaves prog Tryz.f172 (a.put (some d) v).tmps (fun e w'=>e= .returned (.tuple #[zV,.int .i64 261])/\Bl W w') (a.put (some d) v).defers (.panicking c) w->Leaves prog Tryz.f172 a.tmps (fun e w'=>e= .returned (.tuple #[zV,.int .i64 261])/\Bl W w') a.defers (.panicking c) w):=fun c a d v w hd h=>by
  rw[a1d (b3o a d v hd)] at h;exact h
 go_enter_defers func172,ntmps172
 go_wp2_with fail
 (with_reducible refine(c5h (W:=_) (p:=none) cF).mono ?_)
 rintro e w1 ⟨rfl,rfl⟩;go_wp2_with fail;refine(a2t 8 (fun B=>B.heap[W.heap.size]?=some (.cells #[.pointer none] 47 (0,0))) ((.take 2 (.take 3 (.one 0 (.take 1 (.one 4 (.one 5 (.one 6 .done)))))))) ab ab ab ab (fun c a d v w hd h=>HQ.o c a d v w hd h) (pY HS0.o ((Bl.refl _).drew)) ?_);intro wd HWD hY;iterate 2 (refine cT ?_)
 refine aL rfl (fun K hK=>?_);go_simp;((with_reducible refine(jK _).mono ?_);rintro e w2 ⟨rfl,hb2⟩;have HB2:=aB (HWD.o.call hb2));go_wp2_with fail;refine hK.o _ _ ((pY hY hb2)) ?_;clear hY hK K;intro hY;refine cT ?_;refine aL rfl (fun K hK=>?_);go_simp;refine(d2a _ _).mono ?_;rintro e w5 ⟨rfl,hb5⟩;have HB5:=aB (HB2.o.call hb5);have HE5:=aB (pY HE0.o HB5.o);have c0:=cK HE5.o;have z0:w5.frozen? ⟨W.heap.size+2,0,none⟩=false:=aJ HE5.o 0;clear hb5;go_wp2_with fail;refine leaves_cons (f:=202) (args:= #[.pointer (some ⟨W.heap.size+2,0,none⟩),.func (.func 203) #[] #[.pointer (some ⟨W.heap.size+1,0,none⟩),.pointer (some ⟨W.heap.size,0,none⟩),.pointer (some ⟨W.heap.size+3,0,none⟩)]]) aa am ?_;have hx5:=(aM w5 ⟨W.heap.size+2,0,none⟩ (.int .i64 261) (W.heap.size+1) be).trans (pY HX0.o HB5.o);have hclear:=d0v (A:=w5.setCell ⟨W.heap.size+2,0,none⟩ (.int .i64 261)) (X:=W.heap.size+1) (Sb:=W.heap.size) (Wb:=W.heap.size+3) hx5 ((aM _ ⟨W.heap.size+2,0,none⟩ _ _ cL).trans (pY HS0.o HB5.o)) ((aM _ ⟨W.heap.size+2,0,none⟩ _ _ cV).trans (pY HW0.o HB5.o)) aE aE;refine(a1j ⟨W.heap.size+2,0,none⟩ 0 261 203 #[] #[.pointer (some ⟨W.heap.size+1,0,none⟩),.pointer (some ⟨W.heap.size,0,none⟩),.pointer (some ⟨W.heap.size+3,0,none⟩)] #[.pointer (some ⟨W.heap.size+1,0,none⟩),.pointer (some ⟨W.heap.size,0,none⟩),.pointer (some ⟨W.heap.size+3,0,none⟩)] aa w5 _ c0 z0 a1i hclear).mono ?_;rintro e u' w6 ⟨rfl,rfl,rfl⟩;have hx6:=bO hx5 (.int .i64 0) (.int .i64 0) (.int .i64 0) (S []) (S []) (S []) (.int .i64 0) (.slice none 0 0);have he6:=(bP (w5.setCell ⟨W.heap.size+2,0,none⟩ (.int .i64 261)) (b:=W.heap.size+1) (i:=W.heap.size+2) aE (.int .i64 0) (.int .i64 0) (.int .i64 0) (S []) (S []) (S []) (.int .i64 0) (.slice none 0 0)).trans (lN HE5.o 0 (.int .i64 261));obtain⟨⟨q0,q1,q2,q3,q4,q5,q6,q7⟩,-⟩:=eight hx6;have r0:=cK (x:= .int .i64 261) he6;refine⟨.tuple #[zV,.int .i64 261],?_,rfl,qY (((HB0.o.call HB5.o)).set (p:=⟨W.heap.size+2,0,none⟩) eo _) aE _ _ _ _ _ _ _ _⟩;simp[results,results172,go_sem,q0,q1,q2,q3,q4,q5,q6,q7,r0]
end
section
end
section
theorem noStr_none(W:World):xS W none:=by unfold xS;exact Or.inl rfl
theorem qneed_nil(W:World)(a:Option Addr)(n c:Nat):eu 126 #[RN,.slice a n c] W fun e w'=>e=Pan 261/\Bl W w':=by
 have HB0:=aB ((Bl.refl W).alloc (.cells #[.pointer none] 113));go_enter func126,ntmps126;go_wp2_with fail
 (with_reducible refine(b1l (noStr_none _) _ _ _).mono ?_)
 rintro e w1 ⟨rfl,hb1⟩;have HB1:=aB (HB0.o.call hb1);clear hb1;go_wp2_with fail
 (with_reducible refine(d3t _ _).mono ?_)
 rintro e w' ⟨rfl,rfl⟩;go_wp2;exact⟨rfl,rfl,HB1.o⟩
theorem qexpr_nil(W:World):eu 120 #[RN] W fun e w'=>e=Pan 261/\Bl W w':=by
 have HB0:=aB (((Bl.refl W).alloc (.cells #[.pointer none] 113)).alloc (.cells zC 33));go_enter func120,ntmps120;go_wp2_with fail
 (with_reducible refine(d1g _).mono ?_)
 rintro e w1 ⟨rfl,hb1⟩;have HB1:=aB (HB0.o.call hb1);clear hb1;go_wp2_with fail
 (with_reducible refine(d3t _ _).mono ?_)
 rintro e w' ⟨rfl,rfl⟩;go_wp2;exact⟨rfl,rfl,HB1.o.alloc _⟩
theorem qitem_nil(W:World):eu 55 #[RN] W fun e w'=>e=Pan 261/\Bl W w':=by
 have HB0:=aB (((Bl.refl W).alloc (.cells #[.pointer none] 113)).alloc (.cells zIt 91));have HR0:=aB ((aW (W.alloc (.cells #[.pointer none] 113)) (.cells zIt 91) aa).trans (aN W _));go_enter func55,ntmps55;go_wp2_with fail
 (with_reducible refine(b1l (noStr_none _) _ _ _).mono ?_)
 rintro e w1 ⟨rfl,hb1⟩;have HB1:=aB ((HB0.o.alloc _).call hb1);have HR1:=aB (pY HR0.o (((Bl.refl _).alloc _).call hb1));have a0:=cK HR1.o;clear hb1;go_wp2_with fail
 (with_reducible refine(c5h (noStr_none _)).mono ?_)
 rintro e w' ⟨rfl,rfl⟩;go_wp2_with fail
 (with_reducible refine(a9c (noStr_none _)).mono ?_)
 rintro e w2 ⟨rfl,hb2⟩;have HB2:=aB (HB1.o.call hb2);have HR2:=aB (pY HR1.o hb2);have a0:=cK HR2.o;clear hb2;go_wp2_with fail
 (with_reducible refine(c2r (noStr_none _)).mono ?_)
 rintro e w' ⟨rfl,rfl⟩;go_wp2_with fail;refine(bM (fun B=>B.heap[W.heap.size]?=some (.cells #[.pointer none] 113 (0,0))) (.take 0 (.take 2 (.one 1 (.one 3 (.take 4 (.one 5 .done)))))) ab ab ab (fun c a d v w h=>by cases d<;>exact h) (pY HR2.o ((Bl.refl _).drew)) ?_);intro wd HWD hY;iterate 2 (refine cT ?_)
 refine aL rfl (fun K hK=>?_);go_simp;refine(qexpr_nil _).mono ?_;rintro e w3 ⟨rfl,hb3⟩;go_wp2;exact⟨rfl,rfl,(HB2.o.call HWD.o).call hb3⟩
theorem qlistI_nil(W:World):eu 54 #[RN,.func (.func 55) #[RN] #[]] W fun e w'=>e=Pan 261/\Bl W w':=by
 have HB0:=aB ((Bl.refl W).alloc (.cells #[.pointer none] 113));go_enter func54,ntmps54;go_wp2_with fail;go_loopw [4] (fun o wr=>wr=W.alloc (.cells #[.pointer none] 113)) (fun _ _=>0)
 case atStart=>rfl
 case round=>
  obtain rfl:=hrel;go_wp2_with fail
  (with_reducible refine(qitem_nil _).mono ?_)
  rintro e w1 ⟨rfl,hb1⟩;go_wp2;exact⟨rfl,rfl,HB0.o.call hb1⟩
theorem qquery_nil(W:World):eu 63 #[RN] W fun e w'=>e=Pan 261/\Bl W w':=by
 have HB0:=aB (((Bl.refl W).alloc (.cells #[.pointer none] 113)).alloc (.cells zQu 36));go_enter func63,ntmps63;go_wp2_with fail
 (with_reducible refine(qneed_nil _ _ _ _).mono ?_)
 rintro e w1 ⟨rfl,hb1⟩;go_wp2;exact⟨rfl,rfl,(((((Bl.refl W).alloc _).alloc _).alloc _)).call hb1⟩
theorem qItems1_nil{A:World}{X Sb Wb:Nat}{v:Value}(hX:A.heap[X]?=some (.cells #[v] 22 (0,0)))(hS:A.heap[Sb]?=some (.cells #[.pointer none] 47 (0,0)))(hW:A.heap[Wb]?=some (.cells #[.int .i64 0] 3 (0,0)))(h1:X≠Sb)(h2:X≠Wb):
  eu 52 #[.pointer (some ⟨X,0,none⟩),.pointer (some ⟨Sb,0,none⟩),.pointer (some ⟨Wb,0,none⟩)] A fun e w'=>e= .returned (.tuple #[])/\A.setCell ⟨X,0,none⟩ d2i=w':=by
 have a0:=cK hX;have z0:A.frozen? ⟨X,0,none⟩=false:=aJ hX 0;have c1:=cK ((aM A ⟨X,0,none⟩ d2i Sb (Ne.symm h1)).trans hS);have c2:=cK ((aM A ⟨X,0,none⟩ d2i Wb (Ne.symm h2)).trans hW);clear hX hS hW;go_enter func52,ntmps52;go_wp2_with fail
 (with_reducible refine(c2r (noStr_none _)).mono ?_)
 rintro e w' ⟨rfl,rfl⟩;go_wp2;go_end0;exact⟨rfl,rfl⟩
theorem qRead1_nil{A:World}{X Sb Wb:Nat}{cs:List Value}(hl:cs.length=24)(hX:A.heap[X]?=some (.cells cs.toArray 36 (0,0)))(hS:A.heap[Sb]?=some (.cells #[.pointer none] 47 (0,0)))(hW:A.heap[Wb]?=some (.cells #[.int .i64 0] 3 (0,0)))(h1:X≠Sb)(h2:X≠Wb):
  eu 62 #[.pointer (some ⟨X,0,none⟩),.pointer (some ⟨Sb,0,none⟩),.pointer (some ⟨Wb,0,none⟩)] A fun e w'=>e= .returned (.tuple #[])/\But X A w'/\w'.heap[X]?=some (.cells zQ0.toArray 36 (0,0)):=by
 have HX:=aB hX;have H1:=aB (bT hS hW);have HN:=aB (show(cs.take 0++zQ0++cs.drop (0+zQ0.length))=zQ0 from by rw[List.take_zero,cB,List.drop_eq_nil_of_le (by rw[hl];exact aH _),List.append_nil]);have HL:=aB (show decide (0+zQ0.length<=cs.length)=true from by rw[hl];rfl);clear hX hS hW hl;go_enter func62,ntmps62;go_wp2_with (refine bA rfl rfl rfl rfl zQ0 HX.o HN.o HL.o tC rfl ?_)
 intro B hB hXB;have c1:=cK ((hB.same _ (Ne.symm h1)).trans H1.o.1);have c2:=cK ((hB.same _ (Ne.symm h2)).trans H1.o.2);have HB:=aB (bT hB hXB);clear hB hXB;go_wp2_with fail
 (with_reducible refine(c2r (noStr_none _)).mono ?_)
 rintro e w' ⟨rfl,rfl⟩;go_wp2;go_end0;exact⟨rfl,HB.o.1,HB.o.2⟩
structure FrN(W A:World)(T:TypeId)(cs:Array Value):Prop where
 bl:Bl W A
 s:A.heap[W.heap.size]?=some (.cells #[.pointer none] 47 (0,0))
 x:A.heap[W.heap.size+1]?=some (.cells cs T (0,0))
 e:A.heap[W.heap.size+2]?=some (.cells #[.int .i64 0] 39 (0,0))
 q:A.heap[W.heap.size+3]?=some (.cells #[.int .i64 0] 3 (0,0))
theorem FrN.size{W A:World}{T:TypeId}{cs:Array Value}(h:FrN W A T cs):W.heap.size+3<A.heap.size:=(aC.1 h.q).1
theorem FrN.next{W A B:World}{T:TypeId}{cs:Array Value}(h:FrN W A T cs)(hb:Bl A B):FrN W B T cs:=
 ⟨h.bl.call hb,pY h.s hb,pY h.x hb,pY h.e hb,pY h.q hb⟩
theorem FrN.start(W:World)(T:TypeId)(cs:Array Value):FrN W ((((W.alloc (.cells #[.pointer none] 47)).alloc (.cells cs T)).alloc (.cells #[.int .i64 0] 39)).alloc (.cells #[.int .i64 0] 3)) T cs:=
 ⟨(((Bl.refl W).alloc _).alloc _).alloc _ |>.alloc _,(aW _ _ cC).trans (uA _ _ _ _),(aW _ _ cC).trans (oZ _ _ _ _),(aW _ _ aa).trans (aV _ _ aa),aV _ _ aa⟩
theorem qRead_nil(W:World):eu 19 #[.pointer none] W fun e w'=>e= .returned (.tuple #[zQV,.int .i64 261])/\Bl W w':=by
 have hmf:∀(fn:Fn) (first cap:Array Value) (w:World),(Instr.makeFunc fn first cap).run prog w= .ok (.func fn first cap) w:=fun _ _ _ _=>rfl;have HF0:=aB (FrN.start W 36 zQ0.toArray)
 go_enter_defers func19,ntmps19
 go_wp2_with fail
 (with_reducible refine(c5h (noStr_none _)).mono ?_)
 rintro e w1 ⟨rfl,rfl⟩;go_wp2_with fail
 (with_reducible refine(qquery_nil _).mono ?_)
 rintro e w5 ⟨rfl,hb5⟩;have HF5:=aB (HF0.o.next hb5);clear hb5;have c0:=cK HF5.o.e;have z0:w5.frozen? ⟨W.heap.size+2,0,none⟩=false:=aJ HF5.o.e 0;have hz5:=HF5.o.size;go_wp2_with fail;refine leaves_cons (f:=51) (args:= #[.pointer (some ⟨W.heap.size+2,0,none⟩),.func (.func 62) #[] #[.pointer (some ⟨W.heap.size+1,0,none⟩),.pointer (some ⟨W.heap.size,0,none⟩),.pointer (some ⟨W.heap.size+3,0,none⟩)]]) aa am ?_;have hx5:=(aM w5 ⟨W.heap.size+2,0,none⟩ (.int .i64 261) (W.heap.size+1) be).trans HF5.o.x;have hs5:=(aM w5 ⟨W.heap.size+2,0,none⟩ (.int .i64 261) (W.heap.size) cL).trans HF5.o.s;have hq5:=(aM w5 ⟨W.heap.size+2,0,none⟩ (.int .i64 261) (W.heap.size+3) cV).trans HF5.o.q;refine(d8s ⟨W.heap.size+2,0,none⟩ 0 261 62 #[] #[.pointer (some ⟨W.heap.size+1,0,none⟩),.pointer (some ⟨W.heap.size,0,none⟩),.pointer (some ⟨W.heap.size+3,0,none⟩)] #[.pointer (some ⟨W.heap.size+1,0,none⟩),.pointer (some ⟨W.heap.size,0,none⟩),.pointer (some ⟨W.heap.size+3,0,none⟩)] aa w5 _ c0 z0 d9a (qRead1_nil rfl hx5 hs5 hq5 aE aE)).mono ?_;rintro e u' w6 ⟨rfl,rfl,hB,hx6⟩;have he6:=(hB.same (W.heap.size+2) aE).trans (lN HF5.o.e 0 (.int .i64 261));have r0:=cK (x:= .int .i64 261) he6;refine⟨.tuple #[zQV,.int .i64 261],?_,rfl,iL (HF5.o.bl.set (p:=⟨W.heap.size+2,0,none⟩) eo _) hB.grown (by simp[dX];omega) (fun j hj=>by injection hj with hj;omega)⟩;exact d4s rfl _ _ (W.heap.size+1) 36 _ _ _ _ rfl hx6 underlying36 rfl tC rfl cX
theorem qItems_nil(W:World):eu 15 #[.pointer none] W fun e w'=>e= .returned (.tuple #[d2i,.int .i64 261])/\Bl W w':=by
 have hmf:∀(fn:Fn) (first cap:Array Value) (w:World),(Instr.makeFunc fn first cap).run prog w= .ok (.func fn first cap) w:=fun _ _ _ _=>rfl;have HF0:=aB (FrN.start W 22 #[d2i])
 go_enter_defers func15,ntmps15
 go_wp2_with fail
 (with_reducible refine(c5h (noStr_none _)).mono ?_)
 rintro e w1 ⟨rfl,rfl⟩;go_wp2_with fail
 (with_reducible refine(qlistI_nil _).mono ?_)
 rintro e w5 ⟨rfl,hb5⟩;have HF5:=aB (HF0.o.next (((Bl.refl _).alloc _).call hb5));clear hb5;have c0:=cK HF5.o.e;have z0:w5.frozen? ⟨W.heap.size+2,0,none⟩=false:=aJ HF5.o.e 0;have hz5:=HF5.o.size;go_wp2_with fail;refine leaves_cons (f:=51) (args:= #[.pointer (some ⟨W.heap.size+2,0,none⟩),.func (.func 52) #[] #[.pointer (some ⟨W.heap.size+1,0,none⟩),.pointer (some ⟨W.heap.size,0,none⟩),.pointer (some ⟨W.heap.size+3,0,none⟩)]]) aa am ?_;have hx5:=(aM w5 ⟨W.heap.size+2,0,none⟩ (.int .i64 261) (W.heap.size+1) be).trans HF5.o.x;have hs5:=(aM w5 ⟨W.heap.size+2,0,none⟩ (.int .i64 261) (W.heap.size) cL).trans HF5.o.s;have hq5:=(aM w5 ⟨W.heap.size+2,0,none⟩ (.int .i64 261) (W.heap.size+3) cV).trans HF5.o.q;refine(d8s ⟨W.heap.size+2,0,none⟩ 0 261 52 #[] #[.pointer (some ⟨W.heap.size+1,0,none⟩),.pointer (some ⟨W.heap.size,0,none⟩),.pointer (some ⟨W.heap.size+3,0,none⟩)] #[.pointer (some ⟨W.heap.size+1,0,none⟩),.pointer (some ⟨W.heap.size,0,none⟩),.pointer (some ⟨W.heap.size+3,0,none⟩)] aa w5 _ c0 z0 enters_qItems1 (qItems1_nil hx5 hs5 hq5 aE aE)).mono ?_;rintro e u' w6 ⟨rfl,rfl,rfl⟩;have hx6:=lN hx5 0 d2i;have he6:=(aM (w5.setCell ⟨W.heap.size+2,0,none⟩ (.int .i64 261)) ⟨W.heap.size+1,0,none⟩ d2i (W.heap.size+2) eE).trans (lN HF5.o.e 0 (.int .i64 261));have r0:=cK (x:= .int .i64 261) he6;have r1:=cK (x:=d2i) hx6;refine⟨.tuple #[d2i,.int .i64 261],?_,rfl,(HF5.o.bl.set (p:=⟨W.heap.size+2,0,none⟩) eo _).set (p:=⟨W.heap.size+1,0,none⟩) eK _⟩;exact results_cells rfl _ _ ⟨W.heap.size+1,0,none⟩ ⟨W.heap.size+2,0,none⟩ _ _ rfl (by simp[go_sem,r1]) rfl cX
end
end Go.Proofs.YtfkekkgfmhcanaaGreatDoor
