/- Texts SG SO. -/
import Derived.Test.YtohlomdapelgeaaGreatDoorCR
import Derived.Test.YtohlomdapelgeaaGreatDoorCK
import Derived.Maps.RangeRun
namespace Go.Proofs.YtohlomdapelgeaaGreatDoor
open _root_.Go.Proofs.Tryz
open Go.RowKit
open _root_.Array renaming getElem?_eq_some_iff->aC
open _root_.Go.Lib renaming hid->aB
open _root_.Nat renaming le_refl->aH,le_trans->jH,lt_of_lt_of_le->gK
open _root_.Go.World renaming size_alloc->aR
set_option maxRecDepth 100000
set_option maxHeartbeats 4000000
section
structure Two(bs bw:Nat)(A B:World):Prop where
 size:A.heap.size<=B.heap.size
 same:∀i,i<A.heap.size->i≠bs->i≠bw->B.heap[i]?=A.heap[i]?
 grown:∀W:World,W.grownBy A (some bs)->W.heap.size<=bw->W.grownBy B (some bs)
theorem Two.refl(bs bw:Nat)(A:World):Two bs bw A A:=⟨aH _,fun _ _ _ _=>rfl,fun _ h _=>h⟩
theorem Two.next{bs bw:Nat}{A B C:World}(h:Two bs bw A B)(hg:B.grownBy C (some bs)):Two bs bw A C:=
 ⟨jH h.size hg.4,fun i hi h1 h2=>(hg.block i (gK hi h.size) (fun e=>by injection e with e;omega)).trans (h.same i hi h1 h2),fun W hW hw=>dA (h.grown W hW hw) hg⟩
theorem Two.but{bs bw:Nat}{A B C:World}(h:Two bs bw A B)(hb:But bw B C):Two bs bw A C:=
 ⟨by rw[hb.size];exact h.size,fun i hi h1 h2=>(hb.same i h2).trans (h.same i hi h1 h2),fun W hW hw=>But.from (h.grown W hW hw) hb hw⟩
theorem Two.bl{bs bw:Nat}{A B C:World}(h:Two bs bw A B)(hb:Bl B C):Two bs bw A C:=h.next (gI hb _)
theorem Two.own{bs bw:Nat}{A B C:World}{r:Option Nat}(h:Two bs bw A B)(hg:B.grownBy C r)(hr:∀j,r=some j->A.heap.size<=j/\bw<=j):Two bs bw A C:=
 ⟨jH h.size hg.4,fun i hi h1 h2=>(hg.block i (gK hi h.size) (fun e=>by have:=(hr i e.symm).1;omega)).trans (h.same i hi h1 h2),fun W hW hw=>
  have hh:=h.grown W hW hw
  ⟨hg.1.trans hh.1,hg.2.trans hh.2,hg.3.trans hh.3,jH hh.4 hg.4,fun i hi hq=>(hg.block i (gK hi hh.4) (fun e=>by have:=(hr i e.symm).2;omega)).trans (hh.block i hi hq)⟩⟩
abbrev begW(n:Int)(into:So):Wr:=⟨n,into,[],[],false,d3z,[],0,[],zeroE,⟨[],[]⟩,zeroE,[],[]⟩
abbrev HeapW(A:World)(bw:Nat)(w:Wr)(s:SlW):Prop:=A.heap[bw]?=some (.cells (cellsW w s).toArray 46 (0,0))
def BodyP(bs bw g cap:Nat)(ts:List Tok)(A:World)(R:d2u Wr)(e:Ending)(B:World):Prop:=
 Two bs bw A B/\∃k',iV B bs g cap ts k'/\((∃w s,R= .good k' w/\e= .returned (.tuple #[])/\HeapW B bw w s/\PartsW (fun b=>bw<b) B w s)\/∃c,(c=260\/c=261\/c=270)/\R= .bad c/\e=Pan c)
theorem BodyP.yes{bs bw g cap:Nat}{ts:List Tok}{A:World}{R:d2u Wr}{B:World}{k':Nat}{w:Wr}{s:SlW}(h:Two bs bw A B)(hs:iV B bs g cap ts k')(hr:R= .good k' w)(hx:HeapW B bw w s)(hp:PartsW (fun b=>bw<b) B w s):BodyP bs bw g cap ts A R (.returned (.tuple #[])) B:=
 ⟨h,k',hs,.inl ⟨w,s,hr,rfl,hx,hp⟩⟩
theorem BodyP.no{bs bw g cap:Nat}{ts:List Tok}{A:World}{R:d2u Wr}{B:World}{k':Nat}{c:Int}(h:Two bs bw A B)(hs:iV B bs g cap ts k')(hc:c=260\/c=261\/c=270)(hr:R= .bad c):BodyP bs bw g cap ts A R (Pan c) B:=⟨h,k',hs,.inr ⟨c,hc,hr,rfl⟩⟩
structure FrW(bs bw:Nat)(A B:World)(w:Wr)(s:SlW):Prop where
 two:Two bs bw A B
 r:B.heap[A.heap.size]?=some (.cells #[.pointer (some ⟨bs,0,none⟩)] 122 (0,0))
 x:HeapW B bw w s
 p:PartsW (fun b=>bw<b) B w s
section
variable {bs bw:Nat} {A B C:World} {w w':Wr} {s s':SlW}
theorem FrW.size(h:FrW bs bw A B w s):A.heap.size<B.heap.size:=(aC.1 h.r).1
theorem FrW.next(h:FrW bs bw A B w s)(h1:bs<bw)(h2:bw<A.heap.size)(hg:B.grownBy C (some bs)):FrW bs bw A C w s:=
 have hz:=h.size
 ⟨h.two.next hg,(hg.block _ hz (fun e=>by injection e with e;omega)).trans h.r,(hg.block _ aE (fun e=>by injection e with e;omega)).trans h.x,
  h.p.keep hg.4 (fun _ h=>h) fun b (hb:_<b) hl=>hg.block b hl (fun e=>by injection e with e;omega)⟩
theorem FrW.start(h1:bw<A.heap.size)(hx:HeapW A bw w s)(hp:PartsW (fun b=>bw<b) A w s):FrW bs bw A (A.alloc (.cells #[.pointer (some ⟨bs,0,none⟩)] 122)) w s:=
 have hb:Bl A (A.alloc (.cells #[.pointer (some ⟨bs,0,none⟩)] 122)):=(Bl.refl A).alloc _
 ⟨(Two.refl bs bw A).bl hb,aN _ _,(hb.block _ h1).trans hx,hp.bl hb⟩
theorem FrW.but(h:FrW bs bw A B w s)(h2:bw<A.heap.size)(hb:But bw B C)(hx:HeapW C bw w' s')(hp:PartsW (fun b=>bw<b) B w' s'):FrW bs bw A C w' s':=
 ⟨h.two.but hb,(hb.same _ aE).trans h.r,hx,hp.keep dk (fun _ h=>h) fun b (hlt:_<b) _=>hb.same b aE⟩
end
theorem parts_begW(p:Nat->Prop)(W:World)(n:Int)(into:So):PartsW p W (begW n into) nilW:=by
 have h:=parts_zeroW p W;exact⟨h.cols,h.rows,h.query,h.conf,h.sets,h.wher,h.on,h.whens,h.ret⟩
theorem zdelete_any{A:World}{bs bw g cap k:Nat}{ts:List Tok}(n:Int)(into:So)(h:iV A bs g cap ts k)(hT:lC ts)(hbw1:bs<bw)(hbw2:g<bw)(hbw3:bw<A.heap.size)(hx:HeapW A bw (begW n into) nilW):
  eg 133 #[RV bs,.pointer (some ⟨bw,0,none⟩)] A (BodyP bs bw g cap ts A ((d3s ts d6o k).bind fun k3 x=> .good k3 ({begW n into with wher:=x}:Wr))):=by
 obtain⟨R,HR⟩:∃R,Hid (R=(d3s ts d6o k).bind fun k3 x=> .good k3 ({begW n into with wher:=x}:Wr)):=⟨_,rfl⟩
 rw[<-HR.o];have H:=aB h;have hgl:=h.gl;have HTK:=aB hT;have HF0:=aB (FrW.start (bs:=bs) hbw3 hx (parts_begW (fun b=>bw<b) A n into));have HS0:=aB (h.bl ((Bl.refl A).alloc (.cells #[.pointer (some ⟨bs,0,none⟩)] 122)));clear h hT hx;go_enter func133,ntmps133;go_wp2_with fail;refine(zmaybe_any HS0.o HTK.o d6o).mono ?_;intro e w1 hp;obtain⟨hg1,k1,hs1,hcase⟩:=hp.openE;have HF1:=aB (HF0.o.next hbw1 hbw3 hg1);have HS1:=aB hs1;have hz0:=HF0.o.size;clear hp hg1 hs1;rcases hcase with⟨xk,x1,x2,x3,xt,xn,xo,xa,asv,csv,hr,hA,rfl⟩|⟨c,hc,hr,rfl⟩
 rotate_left
 ·have HB:=aB ((HR).o.trans (d2u.bind_bad hr));clear hr;go_wp2;exact⟨rfl,BodyP.no (HF1).o.two (HS1).o hc HB.o⟩
 have HE:=aB (HR.o.trans (d2u.bind_yes hr));have HP1:=aB (show PartsW (fun b=>bw<b) w1 {begW n into with wher:= .mk xk (x1,x2,x3) xt xn xo xa} {nilW with wher:= .slice asv xa.length csv} from
  {HF1.o.p with wher:=hA.of fun b _ (hb:_<=b)=>by omega})
 clear hr hA;go_wp2_with (refine bA (g:=bw) (i:=33) rfl rfl rfl rfl (cellsW {begW n into with wher:= .mk xk (x1,x2,x3) xt xn xo xa} {nilW with wher:= .slice asv xa.length csv}) HF1.o.x rfl rfl d4b rfl ?_)
 intro w2 hB2 hX2;have HF2:=aB (HF1.o.but hbw3 hB2 hX2 HP1.o);have HS2:=aB (HS1.o.but hB2 aE aE);clear hB2 hX2;go_wp2;go_end0;exact BodyP.yes (HF2).o.two (HS2).o (HE).o (HF2).o.x (HF2).o.p
theorem zupdate_any{A:World}{bs bw g cap k:Nat}{ts:List Tok}(n:Int)(into:So)(h:iV A bs g cap ts k)(hT:lC ts)(hbw1:bs<bw)(hbw2:g<bw)(hbw3:bw<A.heap.size)(hx:HeapW A bw (begW n into) nilW):
  eg 132 #[RV bs,.pointer (some ⟨bw,0,none⟩)] A (BodyP bs bw g cap ts A ((setsR ts k).bind fun k3 l=>(d3s ts d6o k3).bind fun k4 x=> .good k4 ({begW n into with sets:=l,wher:=x}:Wr))):=by
 obtain⟨R,HR⟩:∃R,Hid (R=(setsR ts k).bind fun k3 l=>(d3s ts d6o k3).bind fun k4 x=> .good k4 ({begW n into with sets:=l,wher:=x}:Wr)):=⟨_,rfl⟩
 rw[<-HR.o];have H:=aB h;have hgl:=h.gl;have HTK:=aB hT;have HF0:=aB (FrW.start (bs:=bs) hbw3 hx (parts_begW (fun b=>bw<b) A n into));have HS0:=aB (h.bl ((Bl.refl A).alloc (.cells #[.pointer (some ⟨bs,0,none⟩)] 122)));clear h hT hx;go_enter func132,ntmps132;go_wp2_with fail;refine(zsets_any HS0.o HTK.o).mono ?_;intro e w1 hp;obtain⟨hg1,k1,hs1,hcase⟩:=hp;have HF1:=aB (HF0.o.next hbw1 hbw3 hg1);have HS1:=aB hs1;have hz0:=HF0.o.size;clear hg1 hs1;rcases hcase with⟨l,v,hr,hl,rfl⟩|⟨c,hc,hr,rfl⟩
 rotate_left
 ·have HB:=aB ((HR).o.trans (d2u.bind_bad hr));clear hr;go_wp2;exact⟨rfl,BodyP.no (HF1).o.two (HS1).o hc HB.o⟩
 have HE1:=aB (HR.o.trans (d2u.bind_yes hr));obtain⟨la,lc,rfl,-⟩:=id hl;have HP1:=aB (show PartsW (fun b=>bw<b) w1 {begW n into with sets:=l} {nilW with sets:= .slice la l.length lc} from{HF1.o.p with sets:=hl.low fun b _ (hb:_<=b)=>by omega});clear hr hl;go_wp2_with (refine bA (g:=bw) (i:=32) rfl rfl rfl rfl (cellsW {begW n into with sets:=l} {nilW with sets:= .slice la l.length lc}) HF1.o.x rfl rfl slSetInfo rfl ?_)
 intro w2 hB2 hX2;have HF2:=aB (HF1.o.but hbw3 hB2 hX2 HP1.o);have HS2:=aB (HS1.o.but hB2 aE aE);have hz2:=HF2.o.size;clear hB2 hX2;have a0:=cK HF2.o.r;go_wp2_with fail;refine(zmaybe_any HS2.o HTK.o d6o).mono ?_;intro e w3 hp;obtain⟨hg3,k3,hs3,hcase⟩:=hp.openE;have HF3:=aB (HF2.o.next hbw1 hbw3 hg3);have HS3:=aB hs3;clear hp hg3 hs3 a0;rcases hcase with⟨xk,x1,x2,x3,xt,xn,xo,xa,asv,csv,hr,hA,rfl⟩|⟨c,hc,hr,rfl⟩
 rotate_left
 ·have HB:=aB ((HE1).o.trans (d2u.bind_bad hr));clear hr;go_wp2;exact⟨rfl,BodyP.no (HF3).o.two (HS3).o hc HB.o⟩
 have HE:=aB (HE1.o.trans (d2u.bind_yes hr));have HP3:=aB (show PartsW (fun b=>bw<b) w3 {begW n into with sets:=l,wher:= .mk xk (x1,x2,x3) xt xn xo xa} {nilW with sets:= .slice la l.length lc,wher:= .slice asv xa.length csv} from
  {HF3.o.p with wher:=hA.of fun b _ (hb:_<=b)=>by omega})
 clear hr hA;go_wp2_with (refine bA (g:=bw) (i:=33) rfl rfl rfl rfl (cellsW {begW n into with sets:=l,wher:= .mk xk (x1,x2,x3) xt xn xo xa} {nilW with sets:= .slice la l.length lc,wher:= .slice asv xa.length csv}) HF3.o.x rfl rfl d4b rfl ?_)
 intro w4 hB4 hX4;have HF4:=aB (HF3.o.but hbw3 hB4 hX4 HP3.o);have HS4:=aB (HS3.o.but hB4 aE aE);clear hB4 hX4;go_wp2;go_end0;exact BodyP.yes (HF4).o.two (HS4).o (HE).o (HF4).o.x (HF4).o.p
end
section
section
variable {P:Program}
theorem run_insert_at{T kt et:TypeId}(hT:P.underlying T=some (.map kt et))(hK:P.underlying kt=some (.int .i64)){w:World}{r:Nat}{es:Array MapEntry}{clock:Nat}(hb:w.heap[r]?=some (.map es clock))(n:Int)(v:Value)
  (h:Instr.findNow (.int .i64) (.int .i64 n) es.toList 0=some none):
  (Instr.mapUpdate T (.map (some r)) (.int .i64 n) v).run P w= .ok () {w with heap:=w.heap.setIfInBounds r (.map (es.push {key:= .int .i64 n,val:=v,born:=clock}) (clock+1))}:=by
 have h1:=MapKept.run_getObj_map (P:=P) hb;have h2:=MapKept.run_checkKey (P:=P) (w:=w) (k:= .int .i64 n) hK (by trivial) false 9999;have h3:=MapKept.run_findKey (P:=P) (w:=w) hK h;have h4:=MapKept.run_setObj_map (P:=P) (.map (es.push {key:= .int .i64 n,val:=v,born:=clock}) (clock+1)) hb;simp only[Instr.mapUpdate,Sem.run_bind,run_underlying hT,Result.andThen,h1,h2,h3];rw[h4]
theorem But.obj(r:Nat)(w:World)(o:Obj):But r w {w with heap:=w.heap.setIfInBounds r o}:=
 have hs:∀i,i≠r->(w.heap.setIfInBounds r o)[i]?=w.heap[i]?:=fun i hi=>by rw[Array.getElem?_setIfInBounds];simp[Ne.symm hi]
 ⟨by simp,hs,rfl,rfl,rfl,by simp,fun i _ hi=>hs i (fun e=>hi (by rw[e]))⟩
theorem wpList_insert_at{ops:Array Oper}{rest:List Oper}{o:Oper}{a:Act}{w:World}{Q:Exit->Act->World->Prop}(hgd:o.guard=none){T kt et:TypeId}{m k x:Operand}(ho:o.op= .insert T m k x)(hT:P.underlying T=some (.map kt et))(hK:P.underlying kt=some (.int .i64)){r:Nat}{es:Array MapEntry}{clock:Nat}{n:Int}
  (hm:a.eval m= .map (some r)) (hk:a.eval k= .int .i64 n) (hb:w.heap[r]?=some (.map es clock)) (hf:Instr.findNow (.int .i64) (.int .i64 n) es.toList 0=some none)
  (h:∀w',But r w w'->w'.heap[r]?=some (.map (es.push {key:= .int .i64 n,val:=a.eval x,born:=clock}) (clock+1))->wpList P ops Q rest (a.put o.dst undef) w'):wpList P ops Q (o::rest) a w:=by
 refine wpList_plain hgd fun _ hK2=>?_;unfold Oper.wp execOp;simp only[ho,hm,hk,run_insert_at hT hK hb n (a.eval x) hf,Result.andThen_ok,Sem.run_bind,Sem.run_pure];exact hK2 _ _ (h _ (But.obj r w _) (by
  show(w.heap.setIfInBounds r _)[r]?=_;rw[Array.getElem?_setIfInBounds];simp[(aC.1 hb).1]))
end
abbrev begV(b n:Nat)(f:FuncId):Value:= .agg #[.slice (some ⟨b,0,none⟩) n n,.func (.func f) #[] #[]]
abbrev begAll(r:Nat):Array MapEntry:= #[{key:= .int .i64 1,val:=begV (r+1) 2 131,born:=0},{key:= .int .i64 2,val:=begV (r+2) 1 132,born:=1},{key:= .int .i64 3,val:=begV (r+3) 2 133,born:=2},{key:= .int .i64 4,val:=begV (r+4) 2 134,born:=3}]
structure BegM(A:World)(r:Nat):Prop where
 m:A.heap[r]?=some (.map (begAll r) 4)
 w1:A.heap[r+1]?=some (.cells #[S wInsert,S wInto] 9 (0,0))
 w2:A.heap[r+2]?=some (.cells #[S wUpdate] 9 (0,0))
 w3:A.heap[r+3]?=some (.cells #[S wDelete,S d5p] 9 (0,0))
 w4:A.heap[r+4]?=some (.cells #[S wMerge,S wInto] 9 (0,0))
theorem zbegins_any(W:World):eg 90 #[] W fun e w'=>e= .returned (.map (some W.heap.size))/\Bl W w'/\BegM w' W.heap.size:=by
 have hmm:= @run_makeMap prog;have HM0:=aB (aN W (.map #[] 0));have HB0:=aB ((Bl.refl W).alloc (.map #[] 0));go_enter func90,ntmps90;go_wp2_with (refine wpList_insert_at (r:=W.heap.size) (es:= #[]) rfl rfl underlying151 underlying24 rfl rfl ((aW _ _ aa).trans HM0.o) rfl ?_)
 intro w1 hB1 hm1;have hz1:w1.heap.size=W.heap.size+2:=(by rw[hB1.size];simp);have HA1:=aB ((hB1.same (W.heap.size+1) aE).trans (aV (W.alloc (.map #[] 0)) (.cells #[S wInsert,S wInto] 9) aa));have HL1:=aB (But.bl (HB0.o.alloc _) hB1);have HM1:=aB hm1;clear hB1 hm1;go_wp2_with (refine wpList_insert_at (r:=W.heap.size) (es:= #[{key:= .int .i64 1,val:=begV (W.heap.size+1) 2 131,born:=0}]) rfl rfl underlying151 underlying24 rfl rfl ((aW _ _ aE).trans HM1.o) rfl ?_)
 intro w2 hB2 hm2;have hz2:w2.heap.size=W.heap.size+3:=(by rw[hB2.size,aR,hz1]);have HA2:=aB ((hB2.same (W.heap.size+1) aE).trans ((aW _ _ aE).trans HA1.o));have HC2:=aB ((hB2.same (W.heap.size+2) aE).trans (aV w1 (.cells #[S wUpdate] 9) aE));have HL2:=aB (But.bl (HL1.o.alloc _) hB2);have HM2:=aB hm2;clear hB2 hm2 hz1;go_wp2_with (refine wpList_insert_at (r:=W.heap.size) (es:= #[{key:= .int .i64 1,val:=begV (W.heap.size+1) 2 131,born:=0},{key:= .int .i64 2,val:=begV (W.heap.size+2) 1 132,born:=1}]) rfl rfl underlying151 underlying24 rfl rfl ((aW _ _ aE).trans HM2.o) rfl ?_)
 intro w3 hB3 hm3;have hz3:w3.heap.size=W.heap.size+4:=(by rw[hB3.size,aR,hz2]);have HA3:=aB ((hB3.same (W.heap.size+1) aE).trans ((aW _ _ aE).trans HA2.o));have HC3:=aB ((hB3.same (W.heap.size+2) aE).trans ((aW _ _ aE).trans HC2.o));have HD3:=aB ((hB3.same (W.heap.size+3) aE).trans (aV w2 (.cells #[S wDelete,S d5p] 9) aE));have HL3:=aB (But.bl (HL2.o.alloc _) hB3);have HM3:=aB hm3;clear hB3 hm3 hz2;go_wp2_with (refine wpList_insert_at (r:=W.heap.size) (es:= #[{key:= .int .i64 1,val:=begV (W.heap.size+1) 2 131,born:=0},{key:= .int .i64 2,val:=begV (W.heap.size+2) 1 132,born:=1},{key:= .int .i64 3,val:=begV (W.heap.size+3) 2 133,born:=2}]) rfl rfl underlying151 underlying24 rfl rfl ((aW _ _ aE).trans HM3.o) rfl ?_)
 intro w4 hB4 hm4;have HA4:=aB ((hB4.same (W.heap.size+1) aE).trans ((aW _ _ aE).trans HA3.o));have HC4:=aB ((hB4.same (W.heap.size+2) aE).trans ((aW _ _ aE).trans HC3.o));have HD4:=aB ((hB4.same (W.heap.size+3) aE).trans ((aW _ _ aE).trans HD3.o));have HE4:=aB ((hB4.same (W.heap.size+4) aE).trans (aV w3 (.cells #[S wMerge,S wInto] 9) aE));have HL4:=aB (But.bl (HL3.o.alloc _) hB4);have HM4:=aB hm4;clear hB4 hm4 hz3;go_wp2;go_ret;exact⟨rfl,HL4.o,HM4.o,HA4.o,HC4.o,HD4.o,HE4.o⟩
theorem zitems_any{W:World}{bs g cap k:Nat}{ts:List Tok}(h:iV W bs g cap ts k)(hT:lC ts):eg 93 #[RV bs] W (d2o (fun w l v=>d2p fIt (fun b=>W.heap.size<=b) w v l) bs g cap ts W (readItems ts k)):=by
 have HB0:=aB ((Bl.refl W).alloc (.cells #[.pointer (some ⟨bs,0,none⟩)] 122));have HF0:=aB (FrY.start W bs);have HTK:=aB hT;obtain⟨R,HR⟩:∃R,Hid (R=readItems ts k):=⟨_,rfl⟩
 rw[<-HR.o];clear hT;have H:=aB h;have hbl:=h.lt';have hgl:=h.gl;clear h;go_enter func93,ntmps93;go_wp2_with fail;refine(qItems_any (H.o.bl HB0.o) HTK.o).mono ?_;rintro e w1 ⟨hg1,(⟨k',l,v,hr,hs,hl,rfl⟩|⟨c,hc,hr,hs,rfl⟩)⟩
 ·have HF1:=aB (HF0.o.next hbl hg1);have HS1:=aB hs;have HE:=aB (HR.o.trans hr);have HL:=aB hl;obtain⟨a,cp,rfl,-⟩:=hl.shape;clear hg1 hr hs hl;go_wp2_with fail
  (with_reducible refine(zmust_yes _ _).mono ?_)
  rintro e w' ⟨rfl,rfl⟩;go_wp2;go_ret;exact d2o.yes HF1.o.grown HS1.o HE.o (HL.o.of fun b _ (hb:_<=b)=>by simp at hb;omega)
 ·have HF1:=aB (HF0.o.next hbl hg1);have HS1:=aB hs;have HE:=aB (HR.o.trans hr);have hc0:(c==0)=false:=by rcases hc with rfl|rfl|rfl<;>rfl
  clear hg1 hr hs;go_wp2_with fail
  (with_reducible refine(zmust_no _ _).mono ?_)
  rintro e w' ⟨rfl,rfl⟩;go_wp2;exact⟨rfl,d2o.no HF1.o.grown HS1.o hc HE.o⟩
end
end Go.Proofs.YtohlomdapelgeaaGreatDoor
