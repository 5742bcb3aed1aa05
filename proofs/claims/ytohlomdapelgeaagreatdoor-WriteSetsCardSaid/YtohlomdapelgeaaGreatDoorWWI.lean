/- Texts beside the shared ones. -/
import Derived.Test.YtohlomdapelgeaaGreatDoorWX0
import Derived.Test.YtohlomdapelgeaaGreatDoorWWE
import Derived.Test.YtohlomdapelgeaaGreatDoorWWF
import Derived.Test.YtohlomdapelgeaaGreatDoorWWH
import Derived.Test.YtohlomdapelgeaaGreatDoorWHR
import Derived.Sort.CutIn
namespace Go.Proofs.YtohlomdapelgeaaGreatDoor
open _root_.Go.Proofs.Tryz
open Go.RowKit Go.Shelf
open _root_.Array renaming getElem?_eq_some_iff->aC
open _root_.Bool renaming and_eq_true->aQ,not_eq_true'->nT
open _root_.List renaming all_eq_true->jA,mem_append->iX,range->iU
open _root_.Nat renaming le_refl->aH,zero_add->gD
open _root_.Go.Oper renaming semAt_some->nC
open _root_.Option renaming map_some->lX
open _root_.Go.World renaming cell?_of_block->jV
set_option maxRecDepth 100000
section
attribute [local go_sem] nC
section
variable {P:Program} {n:Nat} {ops:Array Oper} {rest:List Oper} {o:Oper} {a:Act} {w:World} {Q:Exit->Act->World->Prop}
theorem wpListIn_boxO(hg:o.guard=none)(t:TypeId)(x:Operand)(ho:o.op= .box t x)(cs:List Value)(hx:(a.eval x).cells=cs.toArray)
  (h:∀w',Bl w w'->w'.heap[w.heap.size]?=some (.cells cs.toArray t (0,0))->wpListIn Fence.wide n P ops Q rest (a.put o.dst (.pointer (some ⟨w.heap.size,0,none⟩))) w'):wpListIn Fence.wide n P ops Q (o::rest) a w:=by
 refine wpListIn_plain hg fun K hK=>wpIn_wide_of n (fun c e=>by rw[ho] at e;cases e) ?_;unfold Oper.wp execOp;simp only[ho,Sem.run_bind,Instr.box,newVar,newRow,run_newObj_alloc,Sem.run_pure,Result.andThen_ok,hx];exact hK _ _ (h _ ((Bl.refl w).alloc _) (aN w _))
theorem wpListIn_load_mid(hg:o.guard=none)(ty:TypeId)(x:Operand)(ho:o.op= .load ty x)(b i:Nat)(hx:a.eval x= .pointer (some ⟨b,i,none⟩))(cs:List Value)(d:TypeDesc)(hc:w.rangeAt b i cs)
  (hu:P.underlying ty=some d) (hd:d.isRow=true) (hi:(P.info? ty).map (·.size)=some cs.length) (h:wpListIn Fence.wide n P ops Q rest (a.put o.dst (.agg cs.toArray)) w):wpListIn Fence.wide n P ops Q (o::rest) a w:=
 wpListIn_plain hg fun K hK=>wpIn_wide_of n (fun c e=>by rw[ho] at e;cases e) (wp_load_mid ty x ho b i hx cs d hc hu hd hi (hK _ _ h))
end
theorem d9c{P:Program}{o:Oper}{a:Act}{w:World}{K:Act->World->Prop}{Q:Exit->Act->World->Prop}{t e:TypeId}{y:Operand}(ho:o.op= .buildSlice t 1 #[(0,y)])(ht:P.underlying t=some (.slice e)){vs:List Value}(hy:(a.eval y).cells=vs.toArray)
  (hi:(P.info? e).map (fun i=>(i.zero.isSome,i.size))=some (true,vs.length)) (h0:decide (0<vs.length/\vs.length<=1000)=true) (h:K (a.put o.dst (.slice (some ⟨w.heap.size,0,none⟩) 1 1)) (w.alloc (.cells vs.toArray e))):Oper.wp P o a w K Q:=by
 obtain⟨i,hi,z,hz,hs⟩:∃i,P.info? e=some i/\∃z,i.zero=some z/\i.size=vs.length:=by
  cases hq:P.info? e with
  |none=>rw[hq] at hi;cases hi
  |some i=>
   rw[hq] at hi;simp only[lX,Option.some.injEq,Prod.mk.injEq] at hi;obtain⟨z,hz⟩:=Option.isSome_iff_exists.1 hi.1;exact⟨i,rfl,z,hz,hi.2⟩
 have h0':=of_decide_eq_true h0;unfold Oper.wp execOp;simp only[ho,Instr.buildSlice];have hne:vs≠[]:=fun e=>(by rw[e] at h0';exact absurd h0'.1 ae);simp[run_underlying ht,sizeOf,typeInfo,zeroValue,hi,hz,hs,newRow];rw[if_neg aE,if_neg hne,e0y hy rfl aa];simp[newObj];exact h
structure WsF(w:Wr)(s:SlW)(many:Int)(bm:Nat)(W A:World):Prop where
 x:A.heap[W.heap.size]?=some (.cells (cWr w s).toArray 46 (0,0))
 m:A.heap[bm]?=some (.cells #[.int .i64 many] 3 (0,0))
 r:A.heap[bm+1]?=some (.cells #[.bool false] 4 (0,0))
 bl:Bl W A
 lt:W.heap.size<bm
theorem WsF.call{w:Wr}{s:SlW}{many:Int}{bm:Nat}{W A B:World}(h:WsF w s many bm W A)(hb:Bl A B):WsF w s many bm W B:=⟨keep_b h.x hb,keep_b h.m hb,keep_b h.r hb,h.bl.call hb,h.lt⟩
theorem WsF.start(w:Wr)(s:SlW)(many:Int)(W:World){A:World}(hb:Bl W A)(hX:A.heap[W.heap.size]?=some (.cells (cWr w s).toArray 46 (0,0))):WsF w s many A.heap.size W ((A.alloc (.cells #[.int .i64 many] 3)).alloc (.cells #[.bool false] 4)):=
 ⟨keep_b (keep_b hX ((Bl.refl _).alloc _)) ((Bl.refl _).alloc _),keep_b (aN _ _) ((Bl.refl _).alloc _),aV _ _ aa,(hb.alloc _).alloc _,lt_of_heap hX⟩
structure WsT(M:World)(bt bn:Nat)(Ds:List Nat)(t n:Int)(A:World):Prop where
 bl:Below M.heap.size M A
 t:Boxed A bt 3 (.int .i64 t)
 n:Boxed A bn 3 (.int .i64 n)
 d:∀D∈Ds,A.heap[D]?=some (.deferred (some []))
theorem boxed_not{A:World}{b:Nat}{t:TypeId}{u:Value}(h:Boxed A b t u){row:Option Nat}(hr:∀r,row=some r->∃o:Obj,A.heap[r]?=some o/\o.isCells=false):some b≠row:=fun e=>by
 obtain⟨o,ho,hc⟩:=hr b e.symm;rw[show A.heap[b]?=some (.cells #[u] t (0,0)) from h] at ho;cases ho;cases hc
theorem WsT.kept{M:World}{bt bn:Nat}{Ds:List Nat}{t n:Int}{A B:World}{B0:Nat}(h:WsT M bt bn Ds t n A)(hM:M.heap.size<=B0)(hD:∀D∈Ds,D<B0){row:Option Nat}(hg:A.grownBy B row)(hr:∀r,row=some r->B0<=r/\∃o:Obj,A.heap[r]?=some o/\o.isCells=false):WsT M bt bn Ds t n B:=
 ⟨h.bl.grown hg h.bl.size (fun r e=>by have:=(hr r e).1;omega),h.t.kept hg (boxed_not h.t fun r e=>(hr r e).2),h.n.kept hg (boxed_not h.n fun r e=>(hr r e).2),fun D hd=>by
  have h1:=h.d D hd;rw[hg.block D (aC.1 h1).1 (fun e=>by have:=(hr D e.symm).1;have:=hD D hd;omega)];exact h1⟩
theorem WsT.call{M:World}{bt bn:Nat}{Ds:List Nat}{t n:Int}{A B:World}(h:WsT M bt bn Ds t n A)(hb:Bl A B):WsT M bt bn Ds t n B:=
 ⟨h.bl.trans (hb.mono h.bl.size),box_bl h.t hb,box_bl h.n hb,fun D hd=>keep_b (h.d D hd) hb⟩
theorem WsT.setN{M:World}{bt bn:Nat}{Ds:List Nat}{t n:Int}{A:World}(h:WsT M bt bn Ds t n A)(hM:M.heap.size<=bn)(hne:bt≠bn)(m:Int):WsT M bt bn Ds t m (A.setCell ⟨bn,0,none⟩ (.int .i64 m)):=
 ⟨h.bl.setCell (p:=⟨bn,0,none⟩) hM _,(aM A ⟨bn,0,none⟩ _ bt hne).trans h.t,h.n.set _,fun D hd=>by
  have h1:=h.d D hd;refine(aM A ⟨bn,0,none⟩ _ D (fun e=>?_)).trans h1;have e:D=bn:=e;rw[e,show A.heap[bn]?=some (.cells #[.int .i64 n] 3 (0,0)) from h.n] at h1;cases h1⟩
def ItW(M:World)(bt bn:Nat)(Ds:List Nat)(many t:Int)(pre:List Nat)(A:World):Prop:=WsT M bt bn Ds t (pre.length:Int) A/\(t=1\/pre.length=0\/(pre.length:Int)<many)
def IxW(M:World)(bt bn:Nat)(Ds:List Nat)(many t:Int)(c:Code)(pre:List Nat)(A:World):Prop:=
 c= .exit 2/\t=0/\WsT M bt bn Ds t (pre.length:Int) A/\many<=pre.length/\1<=pre.length/\(pre.length=1\/(pre.length:Int)-1<many)
theorem some_to{m x:Nat}{pre:List Nat}(h:SomeTo m (pre++[x])):x<m/\pre=iU x:=by
 obtain⟨k,hk,e⟩:=h;cases k with
 |zero=>simp at e
 |succ k=>
  rw[List.range_succ] at e;have h1:=List.append_inj' e rfl;obtain rfl:x=k:=(by simpa using h1.2);exact⟨by omega,h1.1⟩
theorem ws_leave{tm:Array Value}{W Wf:World}{br D D':Nat}(h2:tm[4]?=some (.pointer (some ⟨br,0,none⟩)))(hc:Wf.cell? ⟨br,0,none⟩=some (.bool true))(hD:Wf.heap[D]?=some (.deferred (some [])))(hD':Wf.heap[D']?=some (.deferred (some [])))
  (hne:D≠D') (hw:W.heap.size<=D) (hw':W.heap.size<=D') (hB:Bl W Wf):
  LeavesInM Fence.wide 6 Tryz.prog Tryz.f5 tm (Yes W) [{target:= .collected D',args:= #[]},{target:= .collected D,args:= #[]}] .returning Wf:=by
 have ndef:∀E,Wf.heap[E]?=some (.deferred (some []))->br≠E:=by
  rintro E hE rfl;simp[World.cell?,hE] at hc
 have pc:∀{A:World} {E:Nat},A.cell? ⟨br,0,none⟩=some (.bool true)->br≠E->(A.putObj E (.deferred none)).cell? ⟨br,0,none⟩=some (.bool true):=fun{A E} h hn=>by
  rw[jV (w:=A) (World.putObj_heap_other (by simpa using hn))];exact h
 refine⟨by simp,.inl ⟨_,_,rfl,run_takeDeferred hD',?_⟩⟩;have hD2:(Wf.putObj D' (.deferred none)).heap[D]?=some (.deferred (some [])):=(World.putObj_heap_other aE).trans hD;refine⟨by simp,.inl ⟨_,_,rfl,run_takeDeferred hD2,?_⟩⟩;have hc2:=pc (pc hc (ndef D' hD')) (ndef D hD);refine⟨.bool true,?_,rfl,(hB.trans (belowK_b (w:=W) (aH _) _ _ _ _ hw' hD' rfl rfl)).trans (belowK_b (w:=W) (aH _) _ _ _ _ hw hD2 rfl rfl)⟩;simp[results,results5,go_sem,h2,hc2]
structure WsG(w:Wr)(s:SlW)(many:Int)(bm lb g:Nat)(la:Option Addr)(lc:Nat)(v2:Value)(zs:List StA)(W A:World):Prop where
 f:WsF w s many bm W A
 l:Boxed A lb 43 (.slice la zs.length lc)
 g:Boxed A g 43 v2
 i:StsL A.heap.size A v2 zs
 c:zs.length<=lc
 e:∀j,j<zs.length->∃b1 s1,la=some ⟨b1,0,none⟩/\d2k A b1 (j * 9) (S (zs[j]?.getD stz).1.n::qD (zs[j]?.getD stz).1.x s1)/\gU A s1 (zs[j]?.getD stz).1.x.args/\gU A (zs[j]?.getD stz).sv (zs[j]?.getD stz).1.x.args/\fC (zs[j]?.getD stz).1.x<=1000000
structure WsH(w:Wr)(s:SlW)(many:Int)(bm lb:Nat)(la:Option Addr)(m lc:Nat)(W A:World):Prop where
 f:WsF w s many bm W A
 l:Boxed A lb 43 (.slice la m lc)
theorem d2k.bl{A B:World}{b o:Nat}{v:Value}{cs:List Value}(h:d2k A b o (v::cs))(hb:Bl A B):d2k B b o (v::cs):=h.keep (hb.block _ (h.lt (Nat.succ_pos _)))
theorem cellsAt_heap{A:World}{b:Nat}{cs:List Value}{t:TypeId}(h:A.heap[b]?=some (.cells cs.toArray t (0,0))):d2k A b 0 cs:=fun i v hv=>by
 have:=cell_of h hv;simpa using this
theorem st1:(Tryz.prog.info? 63).map (fun i=>(i.zero.isSome,i.size))=some (true,9):=by kernel_rfl
theorem few_len{l:List St}(h:fewL setF l=true):l.length<=40/\∀x∈l,setF x=true:=by
 unfold fewL at h;simp only[aQ,decide_eq_true_eq,jA] at h;exact⟨h.2,h.1⟩
theorem sets_small{w:Wr}(hF:FewW w):∀x∈setsW w,fC x.x<=1000000:=by
 have key:∀x:St,setF x=true->fC x.x<=1000000:=fun x h=>by
  unfold setF exF vast30 at h;simp only[aQ,nT,decide_eq_false_iff_not] at h;have:=(c2s 200 30 x.x aE).1;omega
 intro x hx;rcases iX.1 hx with h|h
 ·exact key x ((few_len hF.sets).2 x h)
 ·obtain⟨y,hy,hxy⟩:=List.mem_flatMap.1 h;exact key x ((few_len (hF.each y hy)).2 x hxy)
theorem OwnSt.rows{p:Nat->Prop}{base:Nat}{W:World}{v:Value}{l:List St}(h:OwnSt p base W v l):RowsG gSt (fun _=>True) W v l:=by
 obtain⟨ms,hm,hms,ho⟩:=h.own;rw[<-hm];exact rows_ownG ho (fun _ _ _ _=>trivial) (fun q hq=>gSt.keep (aH _) (fun _ _ _=>trivial) (fun _ _ _=>rfl) (hms q hq))
theorem OwnSt.each{p:Nat->Prop}{base:Nat}{W:World}{v:Value}{l:List St}(h:OwnSt p base W v l):∃la lc,v= .slice la l.length lc/\l.length<=lc/\∀j,(hj:j<l.length)->∃b1 s1,la=some ⟨b1,0,none⟩/\d2k W b1 (j * 9) (S l[j].n::qD l[j].x s1)/\gU W s1 l[j].x.args:=by
 obtain⟨a,cap,e,hc⟩:=h.rows.shape;obtain⟨ms,hm,-,ho⟩:=h.own;have hl:ms.length=l.length:=(by rw[<-hm];simp);have hform:l.length<=cap/\(l.length=0\/∃b,a=some ⟨b,0,none⟩):=by
  rcases ho.2 with⟨rfl,h0⟩|⟨b,c,cur,rfl,-,-,h1,-⟩
  ·injection e with e1 e2 e3;omega
  ·injection e with e1 e2 e3;exact⟨by omega,.inr ⟨b,e1.symm⟩⟩
 refine⟨a,cap,e,hform.1,fun j hj=>?_⟩;obtain⟨b,off,cs,ea,-,-,hcs,s1,rfl,hr⟩:=hc j hj;rcases hform.2 with h0|⟨b',eb⟩
 ·omega
 ·rw[eb] at ea;injection ea with ea;injection ea with e1 e2 _;subst e1 e2;refine⟨b',s1,eb,?_,hr.reads⟩;have hcs:d2k W b' (0+j * 9) (S l[j].n::qD l[j].x s1):=hcs;rw[gD] at hcs;exact hcs
theorem enters_zSets1(args:Array Value)(w:World):(callFunc 45 args).run Tryz.prog w= .ok (.enter 45 args) w:=by
 simp[go_sem]
end
end Go.Proofs.YtohlomdapelgeaaGreatDoor
