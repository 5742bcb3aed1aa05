/- Texts SR SY. -/
import Derived.Test.YtohlomdapelgeaaGreatDoorDF
import Derived.Test.YtohlomdapelgeaaGreatDoorDH
namespace Go.Proofs.YtohlomdapelgeaaGreatDoor
open _root_.Go.Proofs.Tryz
open Go.RowKit
open _root_.Go.Act renaming put->aK
open _root_.And renaming intro->bT
open _root_.Array renaming getElem?_eq_some_iff->aC
open _root_.Go.RowKit.Below renaming grown->iL
open _root_.Bool renaming false_eq_true->fM
open _root_.Go.Lib renaming cell_of_heap->aG,frozen_of_heap->aJ,hid->aB
open _root_.List renaming getElem?_eq_getElem->aP,length_append->bD,length_pos_iff->qH,nil_append->cB,setIfInBounds_toArray->aA,set_cons_succ->aF,set_cons_zero->aD
open _root_.Nat renaming le_refl->aH,le_trans->jH
open NoPanic renaming normal->bF
open _root_.Option renaming map_some->lX
open _root_.Go.Region renaming wanted->jG
open _root_.Go.World renaming size_alloc->aR
set_option maxRecDepth 100000
set_option maxHeartbeats 4000000
section
abbrev zW0:List Value:=[.int .i64 0,S [],S [],.slice none 0 0,.slice none 0 0,.bool false,.bool false,.slice none 0 0,S [],S [],.slice none 0 0,.int .i64 0,.int .i64 0,.int .i64 0,S [],S [],S [],.int .i64 0,.slice none 0 0,.slice none 0 0,.int .i64 0,.int .i64 0,.int .i64 0,S [],S [],S [],.int .i64 0,.slice none 0 0,.slice none 0 0,.int .i64 0,.slice none 0 0,.int .i64 0,.slice none 0 0,.int .i64 0,.int .i64 0,.int .i64 0,S [],S [],S [],.int .i64 0,.slice none 0 0,S [],S [],.int .i64 0,.int .i64 0,.int .i64 0,S [],S [],S [],.int .i64 0,.slice none 0 0,.slice none 0 0,.slice none 0 0]
abbrev zWV:Value:= .agg zW0.toArray
theorem PartsW.butW{p:Nat->Prop}{A B:World}{b:Nat}{w:Wr}{s:SlW}(h:PartsW p A w s)(hb:But b A B)(hp:∀i,p i->i≠b):PartsW p B w s:=h.keep (Nat.le_of_eq hb.size.symm) (fun _ h=>h) fun i hi _=>hb.same i (hp i hi)
theorem zRead1_any{A:World}{bs g cap k k0 X Sb Wb:Nat}{ts:List Tok}{cs:List Value}(hs:iV A bs g cap ts k)(hk:k0<ts.length)(hl:cs.length=53)(hX:A.heap[X]?=some (.cells cs.toArray 46 (0,0)))(hS:A.heap[Sb]?=some (.cells #[.pointer (some ⟨bs,0,none⟩)] 66 (0,0)))(hW:A.heap[Wb]?=some (.cells #[.int .i64 (k0:Int)] 3 (0,0)))
  (h1:X≠Sb) (h2:X≠Wb) (h3:bs≠X) (h4:g≠X):
  eg 50 #[.pointer (some ⟨X,0,none⟩),.pointer (some ⟨Sb,0,none⟩),.pointer (some ⟨Wb,0,none⟩)] A fun e w'=>e= .returned (.tuple #[])/\∃B,But X A B/\B.heap[X]?=some (.cells zW0.toArray 46 (0,0))/\B.grownBy w' (some bs)/\iV w' bs g cap ts k0:=by
 have HS:=aB hs;have HX:=aB hX;have HK:=aB hk;have H1:=aB (bT hS hW);have HN:=aB (show(cs.take 0++zW0++cs.drop (0+zW0.length))=zW0 from by rw[List.take_zero,cB,List.drop_eq_nil_of_le (by rw[hl];exact aH _),List.append_nil]);have HL:=aB (show decide (0+zW0.length<=cs.length)=true from by rw[hl];rfl);clear hs hX hk hS hW hl;go_enter func50,ntmps50;go_wp2_with (refine bA rfl rfl rfl rfl zW0 HX.o HN.o HL.o wrInfo rfl ?_)
 intro B hB hXB;have c1:=cK ((hB.same _ (Ne.symm h1)).trans H1.o.1);have c2:=cK ((hB.same _ (Ne.symm h2)).trans H1.o.2);have HB:=aB (bT hB hXB);have HSB:=aB (HS.o.but hB h3 h4);clear hB hXB;go_wp2_with fail;refine(b4r HSB.o (k0:Int)).mono ?_;rintro e w' ⟨hg,(⟨-,-,rfl,hs⟩|⟨hn,-,-⟩)⟩
 ·rw[Int.toNat_natCast] at hs;go_wp2;go_end0;exact⟨rfl,B,HB.o.1,HB.o.2,hg,hs⟩
 ·exact absurd ⟨by omega,by have:=HK.o;omega⟩ hn
theorem enters_zRead1(args:Array Value)(w:World):(callFunc 50 args).run prog w= .ok (.enter 50 args) w:=by
 simp[go_sem]
def ZRPost(bs g cap:Nat)(ts:List Tok)(k:Nat)(W:World)(e:Ending)(w':World):Prop:=
 W.grownBy w' (some bs)/\((∃k' q v,readW ts k= .good k' q/\iV w' bs g cap ts k'/\ReadsW (fun b=>W.heap.size<=b) w' q v/\e= .returned (.tuple #[v,.int .i64 0]))\/
  (∃c,(c=260\/c=261\/c=270)/\readW ts k= .bad c/\iV w' bs g cap ts k/\e= .returned (.tuple #[zWV,.int .i64 c])))
theorem zRead_any{W:World}{bs g cap k:Nat}{ts:List Tok}(h:iV W bs g cap ts k)(hT:lC ts)(hQ:QRd ts k):eg 19 #[.pointer (some ⟨bs,0,none⟩)] W (ZRPost bs g cap ts k W):=by
 have H:=aB h;have HT:=aB hT;have HQ:=aB hQ;have hbl:=h.lt';have hgl:=h.gl;have hmf:∀(fn:Fn) (first cap:Array Value) (w:World),(Instr.makeFunc fn first cap).run prog w= .ok (.func fn first cap) w:=fun _ _ _ _=>rfl;have HF0:=aB (FrD.start W bs k 46 zW0.toArray);have HB0:=aB (((Bl.refl W).alloc (.cells #[.pointer (some ⟨bs,0,none⟩)] 66)).alloc (.cells zW0.toArray 46) |>.alloc (.cells #[.int .i64 0] 47));clear h hT hQ
 go_enter_defers func19,ntmps19
 go_wp2_with fail
 (with_reducible refine(b9a (H.o.bl HB0.o)).mono ?_)
 rintro e w1 ⟨rfl,rfl⟩;go_wp2_with fail;refine(zwrite_any ((H.o.bl HB0.o).bl ((Bl.refl _).alloc _)) HT.o HQ.o).mono ?_;intro e w5 hp;obtain⟨hg5,k5,hs5,hcase⟩:=hp;have HF5:=aB (HF0.o.next hbl hg5);have HS5:=aB hs5;have hz5:=HF5.o.size;have c0:=cK HF5.o.e;have z0:w5.frozen? ⟨W.heap.size+2,0,none⟩=false:=aJ HF5.o.e 0;rcases hcase with⟨q,v,hr5,hq5,rfl⟩|⟨c,hc,hr5,rfl⟩
 rotate_left
 ·have HR5:=aB hr5;have HC:=aB hc;clear hg5 hs5 hr5 hc;go_wp2_with fail;refine leaves_cons (f:=49) (args:= #[.pointer (some ⟨W.heap.size+2,0,none⟩),.func (.func 50) #[] #[.pointer (some ⟨W.heap.size+1,0,none⟩),.pointer (some ⟨W.heap.size,0,none⟩),.pointer (some ⟨W.heap.size+3,0,none⟩)]]) aa an ?_;have hclear:=zRead1_any (A:=w5.setCell ⟨W.heap.size+2,0,none⟩ (.int .i64 c)) (X:=W.heap.size+1) (Sb:=W.heap.size) (Wb:=W.heap.size+3) (HS5.o.set1 aE aE _ _) H.o.lt rfl ((aM _ ⟨W.heap.size+2,0,none⟩ _ _ be).trans HF5.o.x) ((aM _ ⟨W.heap.size+2,0,none⟩ _ _ da).trans HF5.o.s) ((aM _ ⟨W.heap.size+2,0,none⟩ _ _ dv).trans HF5.o.q) aE aE aE aE;refine(zcaught_panic ⟨W.heap.size+2,0,none⟩ 0 c 50 #[] #[.pointer (some ⟨W.heap.size+1,0,none⟩),.pointer (some ⟨W.heap.size,0,none⟩),.pointer (some ⟨W.heap.size+3,0,none⟩)] #[.pointer (some ⟨W.heap.size+1,0,none⟩),.pointer (some ⟨W.heap.size,0,none⟩),.pointer (some ⟨W.heap.size+3,0,none⟩)] aa w5 _ c0 z0 enters_zRead1 hclear).mono ?_;rintro e u' w6 ⟨rfl,rfl,B,hB,hXB,hg6,hs6⟩;have hx6:=(hg6.block (W.heap.size+1) (by rw[hB.size];simp;omega) (fun e=>by injection e with e;omega)).trans hXB;have he6:=(hg6.block (W.heap.size+2) (by rw[hB.size];simp;omega) (fun e=>by injection e with e;omega)).trans ((hB.same _ aE).trans (lN HF5.o.e 0 (.int .i64 c)));have r0:w6.cell? ⟨W.heap.size+2,0,none⟩=some (.int .i64 c):=(by rw[aG he6];rfl);refine⟨.tuple #[zWV,.int .i64 c],?_,dA (But.from (dP HF5.o.grown 0 aE _) hB aE) hg6,.inr ⟨c,HC.o,HR5.o,hs6,rfl⟩⟩;exact d4s rfl _ _ (W.heap.size+1) 46 _ _ _ _ rfl hx6 underlying46 rfl wrInfo rfl (by simp[go_sem,r0])
 have HR5:=aB hr5;obtain⟨s0,rfl,hp5⟩:=hq5;have HP5:=aB (hp5.keep (r:=fun b=>W.heap.size+4<=b) (aH _) (fun b (hb:_<=b)=>by simp at hb;omega) fun _ _ _=>rfl);have HONE:=aB hp5.one;clear hg5 hs5 hr5 hp5 c0 z0;go_wp2_with (refine bA rfl rfl rfl rfl (cellsW q s0) HF5.o.x rfl rfl wrInfo HONE.o ?_)
 intro w6 hB6 hX6;have he6:=(hB6.same (W.heap.size+2) aE).trans HF5.o.e;have c0:=cK he6;have z0:w6.frozen? ⟨W.heap.size+2,0,none⟩=false:=aJ he6 0;have HB6:=aB (bT hB6 hX6);have HE6:=aB he6;clear hB6 hX6 he6;go_wp2_with fail;refine leaves_cons (f:=49) (args:= #[.pointer (some ⟨W.heap.size+2,0,none⟩),.func (.func 50) #[] #[.pointer (some ⟨W.heap.size+1,0,none⟩),.pointer (some ⟨W.heap.size,0,none⟩),.pointer (some ⟨W.heap.size+3,0,none⟩)]]) aa an ?_;refine(zcaught_idle _ _ _).mono ?_;rintro e u' w'' ⟨rfl,rfl,rfl⟩;have hx7:=(aM w6 ⟨W.heap.size+2,0,none⟩ (.int .i64 0) (W.heap.size+1) be).trans HB6.o.2;have r0:=cK (x:= .int .i64 0) (lN HE6.o 0 (.int .i64 0));refine⟨.tuple #[(.agg (cellsW q s0).toArray),.int .i64 0],?_,dP (But.from HF5.o.grown HB6.o.1 aE) 0 aE _,.inl ⟨k5,_,_,HR5.o,(HS5.o.but HB6.o.1 aE aE).set1 aE aE _ _,⟨_,rfl,?_⟩,rfl⟩⟩
 ·exact d4s rfl _ _ (W.heap.size+1) 46 _ _ _ _ rfl hx7 underlying46 rfl wrInfo rfl (by simp[go_sem,r0])
 ·exact(HP5.o.butW HB6.o.1 (fun i hi=>by omega)).keep (r:=fun b=>W.heap.size<=b) aa (fun b hb=>by omega) fun i hi _=>aM _ ⟨W.heap.size+2,0,none⟩ _ _ (by show i≠W.heap.size+2;omega)
def ZParsePost(s:List UInt8)(W:World)(e:Ending)(w':World):Prop:=∃v,ReadsW (fun _=>True) w' (parseW s).2 v/\e= .returned (.tuple #[v,.int .i64 (parseW s).1])/\Bl W w'
theorem parseW_bad{s:List UInt8}(h:bY s≠0):parseW s=(bY s,zeroW):=by
 unfold parseW;unfold bY at h⊢;by_cases h1:4000<s.length
 ·rw[if_pos h1,if_pos h1]
 ·rw[if_neg h1] at h⊢;rw[if_neg h1];cases ht:jQ s with
  |none=>simp
  |some ts=>rw[ht] at h;simp at h
theorem zParse_bad(s:List UInt8)(hs:s.length<=9223372036854775807)(h:bY s≠0)(W:World)(hG:nD W):eg 8 #[S s] W (ZParsePost s W):=by
 have HPP:=aB (parseW_bad h);have hX0:=aN W (.cells zW0.toArray 46);have HB0:=aB ((Bl.refl W).alloc (.cells zW0.toArray 46));have HG:=aB hG;have hb0:(bY s != 0)=true:=bb;have HA:=aB h;clear hG h;go_enter func8,ntmps8;go_wp2_with fail
 (with_reducible refine(a7d s hs HA.o _ (HG.o.bl HB0.o)).mono ?_)
 rintro e w1 ⟨rfl,hb1⟩;have HX1:=aB ((hb1.block _ aa).trans hX0);have HB1:=aB (HB0.o.call hb1);clear hb1 hX0;go_wp2_with (refine bA rfl rfl rfl rfl zW0 HX1.o rfl rfl wrInfo rfl ?_)
 intro w9 hB9 hX9;have HX9:=aB hX9;have HB9:=aB (But.bl HB1.o hB9);clear hB9 hX9;go_wp2;refine bodyPost_ret (d2v rfl _ _ W.heap.size 46 _ _ rfl HX9.o underlying46 rfl wrInfo) rfl ?_;exact⟨_,by rw[HPP.o];exact reads_zeroW _ _,by rw[HPP.o];rfl,HB9.o⟩
theorem zParse_good(s:List UInt8)(hs:s.length<=4000)(ts:List Tok)(h:jQ s=some ts)(hQ:QRd (ts++[eT s.length]) 0)(W:World)(hG:nD W):eg 8 #[S s] W (ZParsePost s W):=by
 have HT:=aB (a4t h);have HQ:=aB hQ;have HG:=aB hG;have HTS:=aB h;have HP:=aB (show parseW s=match readW (ts++[eT s.length]) 0 with
   | .bad c=>(c,zeroW)
   | .good k x=>if((ts++[eT s.length])[k]?).map (·.k)=some 4 then(0,x) else(261,zeroW) from by unfold parseW;rw[if_neg aE,h];rfl)
 have hX0:=aN W (.cells zW0.toArray 46);have HB0:=aB ((Bl.refl W).alloc (.cells zW0.toArray 46));have hfld:∀(y:Tok) (w:World),Sem.run prog (Instr.field 72 (TVt y) 0) w= .ok (.int .i64 y.k) w:=fun _ _=>rfl;clear hG h hQ;go_enter func8,ntmps8;go_wp2_with fail
 (with_reducible refine(a4h s hs ts HTS.o _ (HG.o.bl HB0.o)).mono ?_)
 rintro e w1 ⟨bs,g,cap,rfl,hb1,hbs,hgs,hs1⟩;rw[aR] at hbs hgs;have HX1:=aB ((hb1.block _ aa).trans hX0);have HB1:=aB (HB0.o.call hb1);have HS1:=aB hs1;have hz1:=(aC.1 HX1.o).1;generalize ts++[eT s.length]=tl at *;clear hb1 hX0 hs1;go_wp2_with fail;refine(zRead_any HS1.o HT.o HQ.o).mono ?_;rintro e w2 ⟨hg2,(⟨k',q,v,hr,hs2,⟨s0,rfl,hA⟩,rfl⟩|⟨c,hc,hr,hs2,rfl⟩)⟩
 ·have HX2:=aB ((hg2.block _ hz1 (fun e=>by injection e with e;omega)).trans HX1.o);have HB2:=aB (a6z HB1.o hg2 aE);have HA2:=aB (hA.keep (r:=fun b=>W.heap.size+1<=b) (aH _) (fun b (hb:_<=b)=>by omega) fun _ _ _=>rfl);have HONE:=aB hA.one;have hz2:=(aC.1 HX2.o).1;have hy:tl[k']?=some (tl[k']'hs2.lt):=aP hs2.lt;generalize tl[k']'hs2.lt=y at hy;have hP:=HP.o;rw[hr] at hP;simp only[hy,lX,Option.some.injEq] at hP;have HY:=aB hy;have HS2:=aB hs2;have hf:=hfld y;clear hA hg2 hs2 hr hy hfld;go_wp2_with (refine bA rfl rfl rfl rfl (cellsW q s0) (aN w2 _) rfl rfl wrInfo HONE.o ?_)
  intro w3 hB3 hX3;have HX3:=aB ((hB3.same _ aE).trans ((aW _ _ hz2).trans HX2.o));have HQ3:=aB hX3;have hb3:Bl w2 w3:=iL ((Bl.refl w2).alloc _) hB3.grown aa (fun j hj=>by injection hj with hj;omega);have HB3:=aB hb3;have HS3:=aB (HS2.o.bl hb3);have hz3:=hb3.size;clear hB3 hX3 hb3;obtain⟨tk,tp,tt,ta,tb,tc⟩:=y;by_cases h4:tk=4
  ·subst h4;rw[if_pos rfl] at hP;have HPP:=aB hP;clear hP;go_wp2_with fail
   (with_reducible refine(rH HS3.o HY.o).mono ?_)
   rintro e w4 ⟨rfl,hb4⟩;have HB4:=aB (HB3.o.call hb4);have HX4:=aB ((hb4.block _ aE).trans HX3.o);have HQ4:=aB ((hb4.block _ (aC.1 HQ3.o).1).trans HQ3.o);clear hb4;go_wp2_with (first |(refine wpList_load_row rfl 46 (.tmp 6) rfl w2.heap.size rfl 46 _ (0,0) _ HQ4.o underlying46 rfl wrInfo ?_)|(refine bA rfl rfl rfl rfl (cellsW q s0) HX4.o rfl rfl wrInfo HONE.o ?_))
   intro w9 hB9 hX9;have HX9:=aB hX9;have HB9:=aB (bT hB9 (But.bl (HB2.o.call HB4.o) hB9));clear hB9 hX9;go_wp2;refine bodyPost_ret (d2v rfl _ _ W.heap.size 46 _ _ rfl HX9.o underlying46 rfl wrInfo) rfl ?_;refine⟨_,?_,by rw[HPP.o];rfl,HB9.o.2⟩;rw[HPP.o];exact⟨_,rfl,((HA2.o.bl HB4.o).butW HB9.o.1 (fun i hi=>by omega)).keep (aH _) (fun _ _=>trivial) fun _ _ _=>rfl⟩
  ·rw[if_neg h4] at hP;have HPP:=aB hP;have hb4:(tk != 4)=true:=cm;clear hP h4;go_wp2_with fail
   (with_reducible refine(rH HS3.o HY.o).mono ?_)
   rintro e w4 ⟨rfl,hb4⟩;have HB4:=aB (HB2.o.call (HB3.o.call hb4));have HX4:=aB ((hb4.block _ aE).trans HX3.o);clear hb4;go_wp2_with (refine bA rfl rfl rfl rfl zW0 HX4.o rfl rfl wrInfo rfl ?_)
   intro w9 hB9 hX9;have HX9:=aB hX9;have HB9:=aB (But.bl HB4.o hB9);clear hB9 hX9;go_wp2;refine bodyPost_ret (d2v rfl _ _ W.heap.size 46 _ _ rfl HX9.o underlying46 rfl wrInfo) rfl ?_;exact⟨_,by rw[HPP.o];exact reads_zeroW _ _,by rw[HPP.o];rfl,HB9.o⟩
 ·have HX2:=aB ((hg2.block _ hz1 (fun e=>by injection e with e;omega)).trans HX1.o);have HB2:=aB (a6z HB1.o hg2 aE);have hz2:=(aC.1 HX2.o).1;have hP:=HP.o;rw[hr] at hP;have HPP:=aB hP;have hc0:(c==0)=false:=by rcases hc with rfl|rfl|rfl<;>rfl
  have hc1:(c != 0)=true:=by rcases hc with rfl|rfl|rfl<;>rfl
  clear hP hg2 hs2 hr hc hfld;go_wp2_with (refine bA rfl rfl rfl rfl zW0 (aN w2 _) rfl rfl wrInfo rfl ?_)
  intro w3 hB3 hX3;have HX3:=aB ((hB3.same _ aE).trans ((aW _ _ hz2).trans HX2.o));have HB3:=aB (HB2.o.call (iL ((Bl.refl w2).alloc (.cells zW0.toArray 46)) hB3.grown aa (fun j hj=>by injection hj with hj;omega)));clear hB3 hX3;go_wp2_with (refine bA rfl rfl rfl rfl zW0 HX3.o rfl rfl wrInfo rfl ?_)
  intro w9 hB9 hX9;have HX9:=aB hX9;have HB9:=aB (But.bl HB3.o hB9);clear hB9 hX9;go_wp2;refine bodyPost_ret (d2v rfl _ _ W.heap.size 46 _ _ rfl HX9.o underlying46 rfl wrInfo) rfl ?_;exact⟨_,by rw[HPP.o];exact reads_zeroW _ _,by rw[HPP.o];rfl,HB9.o⟩
theorem zParse_any(s:List UInt8)(hs:s.length<=9223372036854775807)(hQ:∀ts,jQ s=some ts->QRd (ts++[eT s.length]) 0)(W:World)(hG:nD W):eg 8 #[S s] W (ZParsePost s W):=by
 by_cases h:bY s=0
 ·have hl:s.length<=4000:=by
   unfold bY at h;split at h
   ·cases h
   ·omega
  unfold bY at h;rw[if_neg aE] at h;cases ht:jQ s with
  |none=>rw[ht] at h;simp at h
  |some ts=>exact zParse_good s hl ts ht (hQ ts ht) W hG
 ·exact zParse_bad s hs h W hG
end
section
theorem strs_of{p:Nat->Prop}{W:World}{sv:Value}{l:List (List UInt8)}(h:RowsG gStr p W sv l):(l=[]/\∃a c,sv= .slice a 0 c)\/StrsO W sv l:=by
 obtain⟨a,cap,rfl,hc,h⟩:=h;by_cases h0:l=[]
 ·subst h0;exact .inl ⟨rfl,_,_,rfl⟩
 ·have hpos:0<l.length:=qH.2 h0;obtain⟨b,off,cs,rfl,-,hb,-,-⟩:=h 0 _ (aP hpos);refine .inr ⟨b,off,cap,rfl,hc rfl,hb,fun j hj=>?_⟩;obtain⟨b',off',cs',e,-,-,hcs,hl⟩:=h j _ (aP hj);injection e with e;injection e with e1 e2;subst e1 e2;have hl:cs'=[S l[j]]:=hl;subst hl;have:=hcs 0 _ rfl;simpa[gStr] using this
def notT(m:Bool):List UInt8:=if m then[] else rW
def whenW(x:Wn):List UInt8:=wWhen++[32]++(if x.matched then[] else rW++[32])++wMatched++optT wAnd x.cond++[32]++wThen++[32]++whenActT x
theorem whenT_w(x:Wn):whenT x=[32]++whenW x:=by simp[whenT,whenW]
theorem whenActT_ne{x:Wn}:whenActT x≠[]:=by
 unfold whenActT;split
 ·decide
 split
 ·simp[wUpdate]
 split
 ·decide
 ·simp[wInsert]
theorem full_cons(s:List UInt8)(l:List (List UInt8))(h:s≠[]):(s::l).filter fullT=s::l.filter fullT:=by rw[List.filter_cons,if_pos (fullT_of h)]
theorem full_skip(l:List (List UInt8)):([]::l).filter fullT=l.filter fullT:=by rw[List.filter_cons,if_neg (by rw[fullT_nil];simp)]
theorem when_words(x:Wn):jR [32] ([wWhen,notT x.matched,wMatched,clauseT wAnd x.cond,wThen,whenActT x].filter fullT)=whenW x:=by
 have ha:=whenActT_ne (x:=x);have h1:clauseT wAnd x.cond=[]\/clauseT wAnd x.cond≠[]:=Classical.em _;rw[full_cons _ _ ae];unfold whenW;rw[clause_opt];unfold clauseT;cases hm:x.matched
 ·rw[show notT false=rW from rfl,full_cons _ _ ae,full_cons _ _ ae];cases hn:d3i x.cond
  ·rw[if_neg aa,full_cons _ _ (by simp[wAnd]),full_cons _ _ ae,full_cons _ _ ha];simp[jR]
  ·rw[if_pos rfl,full_skip,full_cons _ _ ae,full_cons _ _ ha];simp[jR]
 ·rw[show notT true=[] from rfl,full_skip,full_cons _ _ ae];cases hn:d3i x.cond
  ·rw[if_neg aa,full_cons _ _ (by simp[wAnd]),full_cons _ _ ae,full_cons _ _ ha];simp[jR]
  ·rw[if_pos rfl,full_skip,full_cons _ _ ae,full_cons _ _ ha];simp[jR]
structure WnT(x:Wn):Prop where
 cond:e0m x.cond
 may:mayB x.cond=true
 act:x.act=1\/(x.act=2/\x.sets≠[]/\∀s∈x.sets,StOK s)\/x.act=3\/(x.act=4/\x.vals≠[]/\∀y∈x.vals,e0m y/\eH y=true)
 ls:x.sets.length<=1000000
 lc:x.cols.length<=1000000
 lv:x.vals.length<=1000000
 text:(whenW x).length<=100000000
theorem ins_words(cols:List (List UInt8)){vals:List Ex}(h:vals≠[]):jR [32] ([wInsert,(if cols=[] then[] else[40]++jR [44,32] cols++[41]),wValues,valuesT vals].filter fullT)=wInsert++listedT cols++[32]++wValues++[32]++rowT vals:=by
 have hv:valuesT vals=rowT vals:=if_neg h;have hne:rowT vals≠[]:=(by simp[rowT]);rw[hv,full_cons _ _ ae,listed_nested];by_cases h0:cols=[]
 ·rw[if_pos h0,if_pos h0,full_skip,full_cons _ _ ae,full_cons _ _ hne];simp[jR]
 ·rw[if_neg h0,if_neg h0,full_cons _ _ aa,full_cons _ _ ae,full_cons _ _ hne];simp[jR]
theorem whenAct_le{x:Wn}{n:Nat}(h:(whenW x).length<=n):(whenActT x).length<=n:=by
 unfold whenW at h;simp only[bD] at h;omega
theorem cond_le{x:Wn}{n:Nat}(h:(whenW x).length<=n):(clauseT wAnd x.cond).length<=n:=by
 unfold whenW at h;rw[clause_opt] at h;simp only[bD] at h;by_cases hn:d3i x.cond=true
 ·unfold clauseT;rw[if_pos hn];simp
 ·rw[if_neg hn] at h;simp only[bD] at h;omega
section
variable {p:Nat->Prop} {W:World} {m:Bool} {c:Ex} {sets:List St} {cols:List (List UInt8)} {vals:List Ex} {s ss sc sv:Value}
theorem zwhenText_plain{act:Int}(hact:act=1\/act=3)(hco:e0m c)(hma:mayB c=true)(hl:(whenW ⟨m,c,act,sets,cols,vals⟩).length<=100000000)(hr:bG p W s c.args)(hG:nD W):
  eg 73 #[.agg (cells13 ⟨m,c,act,sets,cols,vals⟩ s ss sc sv).toArray] W fun e w'=>e= .returned (S (whenW ⟨m,c,act,sets,cols,vals⟩))/\Bl W w':=by
 rcases hact with rfl|rfl
 ·skip
  have HW:Hid (∀w,eg 24 #[.slice (some ⟨w.heap.size,0,none⟩) 6 6] (w.alloc (.cells #[S wWhen,S (notT m),S wMatched,S (clauseT wAnd c),S wThen,S (whenActT ⟨m,c,1,sets,cols,vals⟩)] 9)) fun e w'=>e= .returned (S (whenW ⟨m,c,1,sets,cols,vals⟩))/\Bl w w'):=fun w=>by
   have hwd:=when_words ⟨m,c,1,sets,cols,vals⟩;dsimp only at hwd;have h:=zwords_new (W:=w) [wWhen,notT m,wMatched,clauseT wAnd c,wThen,whenActT ⟨m,c,1,sets,cols,vals⟩] _ 6 _ rfl rfl aa rfl ⟨wWhen,by simp,by decide⟩ (by rw[hwd];exact jH hl ae);rw[hwd] at h;exact h
  have HCL:Hid (∀w,Bl W w->eg 65 #[S wAnd,.agg (qD c s).toArray] w fun e w'=>e= .returned (S (clauseT wAnd c))/\Bl w w'):=fun w hb=>zclause_any wAnd ae hco hma (jH (cond_le hl) ae) w _ ⟨s,rfl,(hr.reads).bl hb⟩ (hG.bl hb);rw[show whenActT ⟨m,c,1,sets,cols,vals⟩=[100,111,32,110,111,116,104,105,110,103] from rfl] at HW;generalize clauseT wAnd c=u1 at *;generalize whenW ⟨m,c,1,sets,cols,vals⟩=u2 at *;clear hl hma hco hr hG;go_enter func73,ntmps73;go_wp2_with (refine wpList_boxO rfl 87 (.tmp 0) rfl (cells13 ⟨m,c,1,sets,cols,vals⟩ s ss sc sv) rfl ?_)
  intro w0 hb0 hX0;have HB0:=aB hb0;have HX0:=aB hX0;have c0:=cell_of (i:=0) hX0 rfl;have c9:=cell_of (i:=9) hX0 rfl;have c10:=cell_of (i:=10) hX0 rfl;clear hb0 hX0;cases m
  all_goals
   simp only[notT,if_true,fM,if_false] at HW
   skip
   go_wp2_with (refine wpList_load_midG ar 38 (.tmp 27) rfl W.heap.size 1 rfl (qD c s) _ (range_of HX0.o rfl) underlying38 rfl d4b ?_)
   refine(HCL.o _ HB0.o).mono ?_;rintro e wz ⟨rfl,hbz⟩;have HBZ:=aB (HB0.o.call hbz);clear hbz;go_wp2_with fail;refine(HW.o _).mono ?_;rintro e wy ⟨rfl,hby⟩;go_wp2;go_ret;exact⟨rfl,HBZ.o.call hby⟩
 ·skip
  have HW:Hid (∀w,eg 24 #[.slice (some ⟨w.heap.size,0,none⟩) 6 6] (w.alloc (.cells #[S wWhen,S (notT m),S wMatched,S (clauseT wAnd c),S wThen,S (whenActT ⟨m,c,3,sets,cols,vals⟩)] 9)) fun e w'=>e= .returned (S (whenW ⟨m,c,3,sets,cols,vals⟩))/\Bl w w'):=fun w=>by
   have hwd:=when_words ⟨m,c,3,sets,cols,vals⟩;dsimp only at hwd;have h:=zwords_new (W:=w) [wWhen,notT m,wMatched,clauseT wAnd c,wThen,whenActT ⟨m,c,3,sets,cols,vals⟩] _ 6 _ rfl rfl aa rfl ⟨wWhen,by simp,by decide⟩ (by rw[hwd];exact jH hl ae);rw[hwd] at h;exact h
  have HCL:Hid (∀w,Bl W w->eg 65 #[S wAnd,.agg (qD c s).toArray] w fun e w'=>e= .returned (S (clauseT wAnd c))/\Bl w w'):=fun w hb=>zclause_any wAnd ae hco hma (jH (cond_le hl) ae) w _ ⟨s,rfl,(hr.reads).bl hb⟩ (hG.bl hb);rw[show whenActT ⟨m,c,3,sets,cols,vals⟩=wDelete from rfl] at HW;generalize clauseT wAnd c=u1 at *;generalize whenW ⟨m,c,3,sets,cols,vals⟩=u2 at *;clear hl hma hco hr hG;go_enter func73,ntmps73;go_wp2_with (refine wpList_boxO rfl 87 (.tmp 0) rfl (cells13 ⟨m,c,3,sets,cols,vals⟩ s ss sc sv) rfl ?_)
  intro w0 hb0 hX0;have HB0:=aB hb0;have HX0:=aB hX0;have c0:=cell_of (i:=0) hX0 rfl;have c9:=cell_of (i:=9) hX0 rfl;have c10:=cell_of (i:=10) hX0 rfl;clear hb0 hX0;cases m
  all_goals
   simp only[notT,if_true,fM,if_false] at HW
   skip
   go_wp2_with (refine wpList_load_midG ar 38 (.tmp 27) rfl W.heap.size 1 rfl (qD c s) _ (range_of HX0.o rfl) underlying38 rfl d4b ?_)
   refine(HCL.o _ HB0.o).mono ?_;rintro e wz ⟨rfl,hbz⟩;have HBZ:=aB (HB0.o.call hbz);clear hbz;go_wp2_with fail;refine(HW.o _).mono ?_;rintro e wy ⟨rfl,hby⟩;go_wp2;go_ret;exact⟨rfl,HBZ.o.call hby⟩
theorem zwhenText_update(h0:sets≠[])(hs:∀x∈sets,StOK x)(hco:e0m c)(hma:mayB c=true)(ls:sets.length<=1000000)(hl:(whenW ⟨m,c,2,sets,cols,vals⟩).length<=100000000)(hr:bG p W s c.args)(hrs:RowsG gSt p W ss sets)(hG:nD W):
  eg 73 #[.agg (cells13 ⟨m,c,2,sets,cols,vals⟩ s ss sc sv).toArray] W fun e w'=>e= .returned (S (whenW ⟨m,c,2,sets,cols,vals⟩))/\Bl W w':=by
 skip
 have HW:Hid (∀w,eg 24 #[.slice (some ⟨w.heap.size,0,none⟩) 6 6] (w.alloc (.cells #[S wWhen,S (notT m),S wMatched,S (clauseT wAnd c),S wThen,S (whenActT ⟨m,c,2,sets,cols,vals⟩)] 9)) fun e w'=>e= .returned (S (whenW ⟨m,c,2,sets,cols,vals⟩))/\Bl w w'):=fun w=>by
  have hwd:=when_words ⟨m,c,2,sets,cols,vals⟩;dsimp only at hwd;have h:=zwords_new (W:=w) [wWhen,notT m,wMatched,clauseT wAnd c,wThen,whenActT ⟨m,c,2,sets,cols,vals⟩] _ 6 _ rfl rfl aa rfl ⟨wWhen,by simp,by decide⟩ (by rw[hwd];exact jH hl ae);rw[hwd] at h;exact h
 have HCL:Hid (∀w,Bl W w->eg 65 #[S wAnd,.agg (qD c s).toArray] w fun e w'=>e= .returned (S (clauseT wAnd c))/\Bl w w'):=fun w hb=>zclause_any wAnd ae hco hma (jH (cond_le hl) ae) w _ ⟨s,rfl,(hr.reads).bl hb⟩ (hG.bl hb);have ea:whenActT ⟨m,c,2,sets,cols,vals⟩=updT sets:=by
  show wUpdate++[32]++wSet++[32]++setsT sets=_;simp[updT,wUpdSet,wUpdate,wSet]
 have hla:=whenAct_le hl;rw[ea] at HW hla;have HU:Hid (∀w,Bl W w->eg 64 #[ss] w fun e w'=>e= .returned (S (updT sets))/\Bl w w'):=fun w hb=>zupdT_any hs h0 ls (jH hla ae) w ss (hrs.bl hb) (hG.bl hb);generalize updT sets=u3 at *;clear ea hla hrs hs h0;generalize clauseT wAnd c=u1 at *;generalize whenW ⟨m,c,2,sets,cols,vals⟩=u2 at *;clear hl hma hco hr hG;go_enter func73,ntmps73;go_wp2_with (refine wpList_boxO rfl 87 (.tmp 0) rfl (cells13 ⟨m,c,2,sets,cols,vals⟩ s ss sc sv) rfl ?_)
 intro w0 hb0 hX0;have HB0:=aB hb0;have HX0:=aB hX0;have c0:=cell_of (i:=0) hX0 rfl;have c9:=cell_of (i:=9) hX0 rfl;have c10:=cell_of (i:=10) hX0 rfl;clear hb0 hX0;cases m
 all_goals
  simp only[notT,if_true,fM,if_false] at HW;go_wp2_with fail;refine(HU.o _ HB0.o).mono ?_;rintro e w1 ⟨rfl,hb1⟩;have HB1:=aB (HB0.o.call hb1);have HX1:=aB ((hb1.block _ (lt_of_heap HX0.o)).trans HX0.o);clear hb1 HX0 HB0 c0 c9 c10
  skip
  go_wp2_with (refine wpList_load_midG ar 38 (.tmp 27) rfl W.heap.size 1 rfl (qD c s) _ (range_of HX1.o rfl) underlying38 rfl d4b ?_)
  refine(HCL.o _ HB1.o).mono ?_;rintro e wz ⟨rfl,hbz⟩;have HBZ:=aB (HB1.o.call hbz);clear hbz;go_wp2_with fail;refine(HW.o _).mono ?_;rintro e wy ⟨rfl,hby⟩;go_wp2;go_ret;exact⟨rfl,HBZ.o.call hby⟩
theorem zwhenText_insert(h0:vals≠[])(hv:∀y∈vals,e0m y/\eH y=true)(hco:e0m c)(hma:mayB c=true)(lc:cols.length<=1000000)(lv:vals.length<=1000000)(hl:(whenW ⟨m,c,4,sets,cols,vals⟩).length<=100000000)(hr:bG p W s c.args)(hrc:RowsG gStr p W sc cols)(hrv:bG p W sv vals)(hG:nD W):
  eg 73 #[.agg (cells13 ⟨m,c,4,sets,cols,vals⟩ s ss sc sv).toArray] W fun e w'=>e= .returned (S (whenW ⟨m,c,4,sets,cols,vals⟩))/\Bl W w':=by
 skip
 have HW:Hid (∀w,eg 24 #[.slice (some ⟨w.heap.size,0,none⟩) 6 6] (w.alloc (.cells #[S wWhen,S (notT m),S wMatched,S (clauseT wAnd c),S wThen,S (whenActT ⟨m,c,4,sets,cols,vals⟩)] 9)) fun e w'=>e= .returned (S (whenW ⟨m,c,4,sets,cols,vals⟩))/\Bl w w'):=fun w=>by
  have hwd:=when_words ⟨m,c,4,sets,cols,vals⟩;dsimp only at hwd;have h:=zwords_new (W:=w) [wWhen,notT m,wMatched,clauseT wAnd c,wThen,whenActT ⟨m,c,4,sets,cols,vals⟩] _ 6 _ rfl rfl aa rfl ⟨wWhen,by simp,by decide⟩ (by rw[hwd];exact jH hl ae);rw[hwd] at h;exact h
 have HCL:Hid (∀w,Bl W w->eg 65 #[S wAnd,.agg (qD c s).toArray] w fun e w'=>e= .returned (S (clauseT wAnd c))/\Bl w w'):=fun w hb=>zclause_any wAnd ae hco hma (jH (cond_le hl) ae) w _ ⟨s,rfl,(hr.reads).bl hb⟩ (hG.bl hb);have ea:whenActT ⟨m,c,4,sets,cols,vals⟩=wInsert++listedT cols++[32]++wValues++[32]++rowT vals:=rfl;have hla:=whenAct_le hl;have hwi:=ins_words cols h0;rw[ea] at HW hla;have hl2:(jR [44,32] cols).length<=100000000:=by
  rw[listed_nested] at hla;by_cases h0:cols=[]
  ·subst h0;simp[jR]
  ·rw[if_neg h0] at hla;simp only[bD] at hla;omega
 have HU:Hid (∀w,Bl W w->eg 60 #[sv] w fun e w'=>e= .returned (S (valuesT vals))/\Bl w w'):=fun w hb=>zvalues_any hv lv (by simp only[bD] at hla;omega) w sv (hrv.keep (fun _ h=>h) fun b _ hl=>hb.block b hl) (hG.bl hb);have HN:Hid (∀w,Bl W w->eg 63 #[sc] w fun e w'=>e= .returned (S (if cols=[] then[] else[40]++jR [44,32] cols++[41]))/\Bl w w'):=fun w hb=>znested_any (strs_of (hrc.bl hb)) lc hl2;have HI:Hid (∀w,eg 24 #[.slice (some ⟨w.heap.size,0,none⟩) 4 4] (w.alloc (.cells #[S wInsert,S (if cols=[] then[] else[40]++jR [44,32] cols++[41]),S wValues,S (valuesT vals)] 9)) fun e w'=>e= .returned (S (wInsert++listedT cols++[32]++wValues++[32]++rowT vals))/\Bl w w'):=fun w=>by
  have h:=zwords_new (W:=w) [wInsert,(if cols=[] then[] else[40]++jR [44,32] cols++[41]),wValues,valuesT vals] _ 4 _ rfl rfl aa rfl ⟨wInsert,by simp,by decide⟩ (by rw[hwi];exact jH hla ae);rw[hwi] at h;exact h
 generalize wInsert++listedT cols++[32]++wValues++[32]++rowT vals=u3 at *;generalize (if cols=[] then[] else[40]++jR [44,32] cols++[41]:List UInt8)=u4 at *;generalize valuesT vals=u5 at *;clear ea hla hl2 hrc hrv hv h0 hwi;generalize clauseT wAnd c=u1 at *;generalize whenW ⟨m,c,4,sets,cols,vals⟩=u2 at *;clear hl hma hco hr hG;go_enter func73,ntmps73;go_wp2_with (refine wpList_boxO rfl 87 (.tmp 0) rfl (cells13 ⟨m,c,4,sets,cols,vals⟩ s ss sc sv) rfl ?_)
 intro w0 hb0 hX0;have HB0:=aB hb0;have HX0:=aB hX0;have c0:=cell_of (i:=0) hX0 rfl;have c9:=cell_of (i:=9) hX0 rfl;have c10:=cell_of (i:=10) hX0 rfl;clear hb0 hX0;cases m
 all_goals
  simp only[notT,if_true,fM,if_false] at HW;go_wp2_with fail;refine wp_region_noPanic (bM (fun B=>B.heap[W.heap.size]?=some (.cells (cells13 ⟨_,c,4,sets,cols,vals⟩ s ss sc sv).toArray 87 (0,0))) ((.take 0 (.take 1 (.take 3 (.take 4 (.one 2 (.one 5 (.one 6 (.one 7 (.take 8 .done)))))))))) af af af (fun _ _ _ _ _ h=>h) (HX0.o) ?_);intro wd HWD hY;iterate 4 (refine aI rfl ab (by intro w hSw;(try dsimp only at hSw);have d11:=cell_of (i:=11) hSw rfl;have d12:=cell_of (i:=12) hSw rfl;go_simp;(try(first |with_reducible rfl|rfl))) ?_;(try simp only[aK,aA,aD,aF]))
  refine aL rfl (fun K hK=>?_);go_simp;(refine(HN.o _ (HB0.o.call HWD.o)).mono ?_;rintro e w3 ⟨rfl,hb3⟩;have hb:=hb3);go_wp2_with fail;refine hK.o _ _ (ap) ?_;clear hY hK K;intro hY;clear hb;refine aL rfl (fun K hK=>?_);go_simp;(refine(HU.o _ ((HB0.o.call HWD.o).call hb3)).mono ?_;rintro e w4 ⟨rfl,hb4⟩;have hb:=hb4);go_wp2_with fail;refine hK.o _ _ (ap) ?_;clear hY hK K;intro hY;clear hb;have HEX:=aB hY;refine aL rfl (fun K hK=>?_);go_simp;refine hK.o _ _ (((((Bl.refl _).alloc _).block _ (lt_of_heap hY)).trans hY)) ?_;clear hY hK K;intro hY;refine aL rfl (fun K hK=>?_);go_simp;(refine(HI.o _).mono ?_;rintro e w5 ⟨rfl,hb5⟩;have hb:=hb5);go_wp2_with fail;refine hK.o _ _ (ap) ?_;clear hY hK K;intro hY;clear hb;refine aI rfl ab (by intro w hSw;(try dsimp only at hSw);have d11:=cell_of (i:=11) hSw rfl;have d12:=cell_of (i:=12) hSw rfl;go_simp;(try(first |with_reducible rfl|rfl))) ?_;(try simp only[aK,aA,aD,aF])
  refine fO (bF ?_);have HX9:=aB hY;have HB9:=aB ((((HB0.o.call HWD.o).call hb3).call hb4).call hb5);clear hY HX0 HB0 c0 c9 c10 HWD hb3 hb4 hb5;go_wp2_with (refine wpList_load_midG ar 38 (.tmp 27) rfl W.heap.size 1 rfl (qD c s) _ (range_of HX9.o rfl) underlying38 rfl d4b ?_)
  refine(HCL.o _ HB9.o).mono ?_;rintro e wz ⟨rfl,hbz⟩;have HBZ:=aB (HB9.o.call hbz);clear hbz;go_wp2_with fail;refine(HW.o _).mono ?_;rintro e wy ⟨rfl,hby⟩;go_wp2;go_ret;exact⟨rfl,HBZ.o.call hby⟩
end
theorem zwhenText_any{p:Nat->Prop}{x:Wn}(h:WnT x){cs:List Value}(W:World)(hc:Shp.lies gWn p W x cs)(hG:nD W):eg 73 #[.agg cs.toArray] W fun e w'=>e= .returned (S (whenW x))/\Bl W w':=by
 obtain⟨s,ss,sc,sv,rfl,hr,hrs,hrc,hrv⟩:=hc;obtain⟨m,c,act,sets,cols,vals⟩:=x;obtain⟨hco,hma,hact,ls,lc,lv,hl⟩:=h;dsimp only at hco hma hact ls lc lv hr hrs hrc hrv;rcases hact with rfl|⟨rfl,h0,hs⟩|rfl|⟨rfl,h0,hv⟩
 ·exact zwhenText_plain (.inl rfl) hco hma hl hr hG
 ·exact zwhenText_update h0 hs hco hma ls hl hr hrs hG
 ·exact zwhenText_plain (.inr rfl) hco hma hl hr hG
 ·exact zwhenText_insert h0 hv hco hma lc lv hl hr hrc hrv hG
theorem enters_zwhenText(args:Array Value)(w:World):(callFunc 73 args).run prog w= .ok (.enter 73 args) w:=by simp[go_sem]
end
end Go.Proofs.YtohlomdapelgeaaGreatDoor
