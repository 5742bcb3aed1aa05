/- Texts beside the shared ones. -/
import Derived.Test.YtkimpcmkminffaaGreatDoorWX0
import Derived.Defers
import Derived.Recover
import Derived.Laws.CopyRow
import Derived.Maps.AppendAt
namespace Go.Proofs.YtkimpcmkminffaaGreatDoor
open Go.RowKit
open Go.RowKit Go.Shelf
open _root_.Go.Addr renaming add->dY
open _root_.And renaming intro->bT
open _root_.Array renaming getElem?_eq_some_iff->aC,replicate->kD,replicate_succ->eX,replicate_zero->eU
open _root_.Go.RowKit.Below renaming grown->iL,refl->bS
open _root_.Bool renaming and_eq_true->aQ,false_and->pK
open _root_.Go.Lib renaming cell_of_heap->aG,frozen_of_heap->aJ,hid->aB
open _root_.List renaming all_eq_true->jA,append_toArray->fD,cons_append->bE,eq_nil_of_length_eq_zero->lM,ext_getElem->kX,getElem?_eq_getElem->aP,length_append->bD,length_cons->aX,length_nil->bL,map_cons->kP,map_nil->qZ,mem_append->iX,mem_singleton->gQ,nil_append->cB,push_toArray->gH,size_toArray->gG
open _root_.Nat renaming le_refl->aH,le_trans->jH,lt_of_lt_of_le->gK,zero_add->gD,zero_le->dL
open _root_.Go.Oper renaming semAt_some->nC
open _root_.Option renaming getD_some->oQ,map_some->lX
open _root_.Go.Region renaming wanted->jG
open _root_.Go.World renaming size_alloc->aR
set_option maxRecDepth 100000
set_option maxHeartbeats 4000000
section
theorem smust_yes(n:Int)(w:World):
  Calls Tryz.prog 120 #[.bool true,.int .i64 n] w fun e w'=>e= .returned (.tuple #[])/\w=w':=by
 go_enter Tryz.func120,Tryz.ntmps120;go_wp2;go_end0;exact⟨rfl,rfl⟩
theorem smust_no(n:Int)(w:World):
  Calls Tryz.prog 120 #[.bool false,.int .i64 n] w fun e w'=>e= .panicked [{v:= .iface 37 (.int .i64 n),recovered:=false}]/\w=w':=by
 go_enter Tryz.func120,Tryz.ntmps120;go_wp2;exact⟨rfl,rfl,rfl⟩
theorem scaught_idle(p:Addr)(g:Value)(w:World):
  CallsD Tryz.prog 114 #[.pointer (some p),g] .returning w fun e u' w'=>e= .returned (.tuple #[])/\u'= .returning/\w=w':=by
 refine callsD_of_wpS Tryz.func114 rfl fun c₀ cs hu=>?_;apply wpS_seq;apply wpS_region;simp[wpOpsS,go_sem,recoverD,hu,Tryz.ntmps114,Exit.thenS];refine wpS_of_wp ?_;go_wp2;cases c₀
 simp_all [bodyPostS,results,Tryz.results114]
theorem scaught_panic(p:Addr)(x n:Int)(g:FuncId)(first cap args:Array Value)(ha:first++cap=args)(w:World)(R:World->Prop)(hc:w.cell? p=some (.int .i64 x))(hz:w.frozen? p=false)
  (hg:∀(args:Array Value) (w:World),(callFunc g args).run Tryz.prog w= .ok (.enter g args) w)
  (hclear:Calls Tryz.prog g args (w.setCell p (.int .i64 n)) fun e w'=>e= .returned (.tuple #[])/\R w'):
  CallsD Tryz.prog 114 #[.pointer (some p),.func (.func g) first cap] (.panicking [{v:= .iface 37 (.int .i64 n),recovered:=false}]) w fun e u' w'=>
   e= .returned (.tuple #[])/\u'= .panicking [{v:= .iface 37 (.int .i64 n),recovered:=true}]/\R w':=by
 subst ha;refine callsD_of_wpS Tryz.func114 rfl fun c₀ cs hu=>?_;apply wpS_seq;apply wpS_region;simp[wpOpsS,go_sem,recoverD,hu,Tryz.ntmps114,Exit.thenS];refine wpS_of_wp ?_;have H:=aB hclear;clear hclear;have hta:∀w,(Instr.typeAssert (.iface 37 (.int .i64 n)) 20 37 false).run Tryz.prog w= .ok (.int .i64 n) w:=fun _=>(by kernel_rfl);rw[show ∀a b x:Value,#[a,b]++(((kD 12 undef).setIfInBounds 3 x).setIfInBounds 2 x)= #[a,b,undef,undef,x,x,undef,undef,undef,undef,undef,undef,undef,undef] from fun _ _ _=>rfl];go_wp2_with fail;refine H.o.mono ?_;rintro e w' ⟨rfl,hR⟩;go_wp2_with fail;cases c₀
 simp_all [bodyPostS,results,Tryz.results114]
theorem bmust_yes(n:Int)(w:World):
  Calls Tryz.prog 25 #[.bool true,.int .i64 n] w fun e w'=>e= .returned (.tuple #[])/\w=w':=by
 go_enter Tryz.func25,Tryz.ntmps25;go_wp2;go_end0;exact⟨rfl,rfl⟩
theorem bmust_no(n:Int)(w:World):
  Calls Tryz.prog 25 #[.bool false,.int .i64 n] w fun e w'=>e= .panicked [{v:= .iface 37 (.int .i64 n),recovered:=false}]/\w=w':=by
 go_enter Tryz.func25,Tryz.ntmps25;go_wp2;exact⟨rfl,rfl,rfl⟩
theorem bcaught_idle(p:Addr)(g:Value)(w:World):
  CallsD Tryz.prog 23 #[.pointer (some p),g] .returning w fun e u' w'=>e= .returned (.tuple #[])/\u'= .returning/\w=w':=by
 refine callsD_of_wpS Tryz.func23 rfl fun c₀ cs hu=>?_;apply wpS_seq;apply wpS_region;simp[wpOpsS,go_sem,recoverD,hu,Tryz.ntmps23,Exit.thenS];refine wpS_of_wp ?_;go_wp2;cases c₀
 simp_all [bodyPostS,results,Tryz.results23]
theorem bcaught_panic(p:Addr)(x n:Int)(g:FuncId)(first cap args:Array Value)(ha:first++cap=args)(w:World)(R:World->Prop)(hc:w.cell? p=some (.int .i64 x))(hz:w.frozen? p=false)
  (hg:∀(args:Array Value) (w:World),(callFunc g args).run Tryz.prog w= .ok (.enter g args) w)
  (hclear:Calls Tryz.prog g args (w.setCell p (.int .i64 n)) fun e w'=>e= .returned (.tuple #[])/\R w'):
  CallsD Tryz.prog 23 #[.pointer (some p),.func (.func g) first cap] (.panicking [{v:= .iface 37 (.int .i64 n),recovered:=false}]) w fun e u' w'=>
   e= .returned (.tuple #[])/\u'= .panicking [{v:= .iface 37 (.int .i64 n),recovered:=true}]/\R w':=by
 subst ha;refine callsD_of_wpS Tryz.func23 rfl fun c₀ cs hu=>?_;apply wpS_seq;apply wpS_region;simp[wpOpsS,go_sem,recoverD,hu,Tryz.ntmps23,Exit.thenS];refine wpS_of_wp ?_;have H:=aB hclear;clear hclear;have hta:∀w,(Instr.typeAssert (.iface 37 (.int .i64 n)) 20 37 false).run Tryz.prog w= .ok (.int .i64 n) w:=fun _=>(by kernel_rfl);rw[show ∀a b x:Value,#[a,b]++(((kD 12 undef).setIfInBounds 3 x).setIfInBounds 2 x)= #[a,b,undef,undef,x,x,undef,undef,undef,undef,undef,undef,undef,undef] from fun _ _ _=>rfl];go_wp2_with fail;refine H.o.mono ?_;rintro e w' ⟨rfl,hR⟩;go_wp2_with fail;cases c₀
 simp_all [bodyPostS,results,Tryz.results23]
end
section
structure But(b:Nat)(A B:World):Prop where
 size:B.heap.size=A.heap.size
 same:∀i,i≠b->B.heap[i]?=A.heap[i]?
 grown:A.grownBy B (some b)
theorem But.refl(b:Nat)(A:World):But b A A:=⟨rfl,fun _ _=>rfl,rfl,rfl,rfl,aH _,fun _ _ _=>rfl⟩
theorem But.set{b:Nat}{A B:World}(h:But b A B)(i:Nat)(v:Value):But b A (B.setCell ⟨b,i,none⟩ v):=
 ⟨by simp[h.size],fun j hj=>(aM _ ⟨b,i,none⟩ _ _ hj).trans (h.same j hj),dA h.grown (qA b i v)⟩
theorem But.row(g:Nat)(w:World)(cs:Array Value):But g w (w.setRow g cs):=⟨by simp,fun i hi=>setRow_other w g i cs hi,rfl,rfl,rfl,by simp,fun i _ hi=>setRow_other w g i cs (fun e=>hi (by rw[e]))⟩
theorem But.bl{W A B:World}{b:Nat}(h:Bl W A)(hb:But b A B)(h2:W.heap.size<=b):Bl W B:=iL h hb.grown h.size (fun j hj=>by injection hj with hj;omega)
section
variable {P:Program}
theorem d7g(w:World)(g o:Nat)(ty:TypeId)(v:Value)(vs cur:List Value)(hv:v.cells=vs.toArray)(t:TypeId)(hg:w.heap[g]?=some (.cells cur.toArray t (0,0)))(hl:o+vs.length<=cur.length)(hi:(P.info? ty).map (·.size)=some vs.length)(h1:∀v∈vs,v.oneCell'=true):
  (storeVar ty ⟨g,o,none⟩ v).run P w= .ok () (w.setRow g (cur.take o++vs++cur.drop (o+vs.length)).toArray):=by
 have h:=run_storeCells_at P g o t vs 0 cur.toArray w hg (by simpa using hl) h1;cases hq:P.info? ty with
 |none=>simp[hq] at hi
 |some i=>
  have hs:vs.length=i.size:=(by simp[hq] at hi;omega);simp only[Nat.add_zero] at h;simp[storeVar,sizeOf,typeInfo,hq,hv,hs,h]
theorem bC{o:Oper}{a:Act}{w:World}{K:Act->World->Prop}{Q:Exit->Act->World->Prop}{ty:TypeId}{x y:Operand}(ho:o.op= .store ty x y){g i:Nat}{vs:List Value}(hx:a.eval x= .pointer (some ⟨g,i,none⟩))(hy:(a.eval y).cells=vs.toArray){t:TypeId}{old:List Value}(new:List Value)
  (hg:w.heap[g]?=some (.cells old.toArray t (0,0))) (hn:old.take i++vs++old.drop (i+vs.length)=new) (hl:decide (i+vs.length<=old.length)=true) (hi:(P.info? ty).map (·.size)=some vs.length) (h1:vs.all (·.oneCell')=true)
  (h:∀w',But g w w'->w'.heap[g]?=some (.cells new.toArray t (0,0))->K (a.put o.dst undef) w'):o.wp P a w K Q:=by
 subst hn;unfold Oper.wp execOp;simp only[ho,hx,Instr.storeAt,Instr.sureAddr,Sem.run_bind,Sem.run_pure,Result.andThen_ok,d7g w g i ty (a.eval y) vs old hy t hg (of_decide_eq_true hl) hi (jA.1 h1)];exact h _ (But.row g w _) (setRow_heap w g _ _ t _ hg)
theorem bA{ops:Array Oper}{rest:List Oper}{o:Oper}{a:Act}{w:World}{Q:Exit->Act->World->Prop}(hgd:o.guard=none){ty:TypeId}{x y:Operand}(ho:o.op= .store ty x y){g i:Nat}{vs:List Value}(hx:a.eval x= .pointer (some ⟨g,i,none⟩))(hy:(a.eval y).cells=vs.toArray){t:TypeId}{old:List Value}(new:List Value)
  (hg:w.heap[g]?=some (.cells old.toArray t (0,0))) (hn:old.take i++vs++old.drop (i+vs.length)=new) (hl:decide (i+vs.length<=old.length)=true) (hi:(P.info? ty).map (·.size)=some vs.length) (h1:vs.all (·.oneCell')=true)
  (h:∀w',But g w w'->w'.heap[g]?=some (.cells new.toArray t (0,0))->wpList P ops Q rest (a.put o.dst undef) w'):wpList P ops Q (o::rest) a w:=
 wpList_plain hgd fun _ hK=>bC ho hx hy new hg hn hl hi h1 fun w' hb h2=>hK _ _ (h w' hb h2)
end
section
variable {P:Program}
theorem d9p:∀(vs pre post:List Value),post.length=vs.length->(vs.zipIdx pre.length).foldl (fun(cs:Array Value) (p:Value×Nat)=>cs.setIfInBounds (0+p.2) p.1) (pre++post).toArray=(pre++vs).toArray
 |[],pre,post,h=>by
  obtain rfl:post=[]:=lM h;rfl
 |v::r,pre,[],h=>by cases h
 |v::r,pre,o::post,h=>by
  rw[List.zipIdx_cons,List.foldl_cons];have e:(pre++o::post).toArray.setIfInBounds (0+pre.length) v=((pre++[v])++post).toArray:=(by simp);show(r.zipIdx (pre.length+1)).foldl _ ((pre++o::post).toArray.setIfInBounds (0+pre.length) v)=_;rw[e];have h2:=d9p r (pre++[v]) post (by simpa using h);rw[bD] at h2;simpa using h2
theorem e0y{v:Value}{vs:List Value}{n:Nat}{cells:Array Value}(hv:v.cells=vs.toArray)(hn:vs.length=n)(hc:cells.size=n):Instr.fill (fun i=>some (i * n,n)) cells [(0,v)]=some vs.toArray:=by
 obtain⟨l⟩:=cells;have hl:l.length=vs.length:=(by simpa[hn] using hc);have h:=d9p vs [] l hl;simp only[cB,bL] at h;have hs:vs.toArray.size=n:=(by simpa using hn);simp only[Instr.fill,hv,Nat.zero_mul];rw[if_neg (by simp[hn,hl])]
 congr 1
 refine Eq.trans ?_ h;simp
theorem d8l{ops:Array Oper}{rest:List Oper}{o:Oper}{a:Act}{w:World}{Q:Exit->Act->World->Prop}(hgd:o.guard=none){t e:TypeId}{y:Operand}(ho:o.op= .buildSlice t 1 #[(0,y)])(ht:P.underlying t=some (.slice e)){vs:List Value}(hy:(a.eval y).cells=vs.toArray)
  (hi:(P.info? e).map (fun i=>(i.zero.isSome,i.size))=some (true,vs.length)) (h0:decide (0<vs.length/\vs.length<=1000)=true)
  (h:wpList P ops Q rest (a.put o.dst (.slice (some ⟨w.heap.size,0,none⟩) 1 1)) (w.alloc (.cells vs.toArray e))):wpList P ops Q (o::rest) a w:=by
 obtain⟨i,hi,z,hz,hs⟩:∃i,P.info? e=some i/\∃z,i.zero=some z/\i.size=vs.length:=by
  cases hq:P.info? e with
  |none=>rw[hq] at hi;cases hi
  |some i=>
   rw[hq] at hi;simp only[lX,Option.some.injEq,Prod.mk.injEq] at hi;obtain⟨z,hz⟩:=Option.isSome_iff_exists.1 hi.1;exact⟨i,rfl,z,hz,hi.2⟩
 refine wpList_plain hgd fun K hK=>?_;have h0':=of_decide_eq_true h0;unfold Oper.wp execOp;simp only[ho,Instr.buildSlice];have hne:vs≠[]:=fun e=>(by rw[e] at h0';exact absurd h0'.1 (by decide));simp[run_underlying ht,sizeOf,typeInfo,zeroValue,hi,hz,hs,newRow];rw[if_neg (by omega),if_neg hne,e0y hy rfl (by simp)];simp[newObj];exact hK _ _ h
end
theorem wpList_load_rowG{P:Program}{ops:Array Oper}{rest:List Oper}{o:Oper}{a:Act}{w:World}{Q:Exit->Act->World->Prop}(hw:jG o (yielded ops a.tmps)=true)(ty:TypeId)(x:Operand)(ho:o.op= .load ty x)
  (g:Nat) (hx:a.eval x= .pointer (some ⟨g,0,none⟩)) (t:TypeId) (cs:Array Value) (fr:Nat×Nat) (d:TypeDesc) (hg:w.heap[g]?=some (.cells cs t fr))
  (hu:P.underlying ty=some d) (hd:(match d with | .struct _| .array _ _=>true|_=>false)=true) (hi:(P.info? ty).map (·.size)=some cs.size)
  (h:wpList P ops Q rest (a.put o.dst (.agg cs)) w):wpList P ops Q (o::rest) a w:=
 wpList_step fun _ hK=>by rw[if_pos hw];exact wp_load_row ty x ho g hx t cs fr d hg hu hd hi (hK _ _ h)
section
variable {P:Program}
theorem append_row{o:Oper}{a:Act}{w:World}{K:Act->World->Prop}{Q:Exit->Act->World->Prop}(s x:Operand){TS T:TypeId}(ho:o.op= .call {callee:= .builtin .append,args:= #[s,x],argTypes:= #[TS,TS]}){N BY:Nat}{Z:Value}
  (hT:(P.info? T).map (fun i=>(i.zero,i.size,i.bytes))=some (some Z,N,BY)) (hu:P.underlying TS=some (.slice T)) (hZ:Z.cells.size=N) (hN:0<N) (hBY:BY<=1000)
  (base:Nat) (v:Value) (n:Nat) (xs:List Value) (hs:a.eval s=v) (hown:w.ownsRow base T N v n xs) (b:Nat) (cs:List Value) (hx:a.eval x= .slice (some ⟨b,0,none⟩) 1 1) {t:TypeId}
  (hb:w.heap[b]?=some (.cells cs.toArray t (0,0))) (hcs:cs.length=N) (h1:cs.all (·.oneCell')=true) (hfew:n<=1000000) (hbase:base<=w.heap.size)
  (h:∀v' w',w'.ownsRow base T N v' (n+1) (xs++cs)->w.grownBy w' v.ownBlock->(v'.ownBlock=v.ownBlock\/v'.ownBlock=some w.heap.size)->K (a.put o.dst v') w'):Oper.wp P o a w K Q:=by
 obtain⟨i,hi,hz0,hz1,hz2⟩:∃i,P.info? T=some i/\i.zero=some Z/\i.size=N/\i.bytes=BY:=by
  cases hi:P.info? T with
  |none=>rw[hi] at hT;cases hT
  |some i=>
   rw[hi] at hT;simp only[lX,Option.some.injEq,Prod.mk.injEq] at hT;exact⟨i,rfl,hT.1,hT.2.1,hT.2.2⟩
 obtain⟨v',w',hr,h2,h3,h4,h5⟩:=run_append_own_at (P:=P) w base TS o.type T i Z N BY hu hi hz0 hz1 hz2 hZ hN v n xs hown ⟨b,0,none⟩ 1 1 cs (by omega)
  (by
   intro j u hj;have:w.cell? ⟨b,0+j,none⟩=some u:=by
    rw[aG hb,gD,<-hj];simp
   have e:(⟨b,0,none⟩:Addr).add j=⟨b,0+j,none⟩:=(by simp[dY];intro h;exact h.symm);rw[e];exact this)
  (fun u hu=>jA.1 h1 u hu) (by unfold maxLen;omega) (by
   have:=Nat.mul_le_mul (show n+1<=1000001 by omega) hBY;omega) hbase
 unfold Oper.wp execOp;simp only[ho,resolve,invoke,builtin,Sem.run_bind,Sem.run_pure,Result.andThen_ok,List.map_toArray,kP,qZ,hs,hx,hr];exact h v' w' h2 h3 h5
theorem wpList_append_row{ops:Array Oper}{rest:List Oper}{o:Oper}{a:Act}{w:World}{Q:Exit->Act->World->Prop}(hgd:o.guard=none)(s x:Operand){TS T:TypeId}(ho:o.op= .call {callee:= .builtin .append,args:= #[s,x],argTypes:= #[TS,TS]}){N BY:Nat}{Z:Value}
  (hT:(P.info? T).map (fun i=>(i.zero,i.size,i.bytes))=some (some Z,N,BY)) (hu:P.underlying TS=some (.slice T)) (hZ:Z.cells.size=N) (hN:0<N) (hBY:BY<=1000)
  (base:Nat) (v:Value) (n:Nat) (xs:List Value) (hs:a.eval s=v) (hown:w.ownsRow base T N v n xs) (b:Nat) (cs:List Value) (hx:a.eval x= .slice (some ⟨b,0,none⟩) 1 1) {t:TypeId}
  (hb:w.heap[b]?=some (.cells cs.toArray t (0,0))) (hcs:cs.length=N) (h1:cs.all (·.oneCell')=true) (hfew:n<=1000000) (hbase:base<=w.heap.size)
  (h:∀v' w',w'.ownsRow base T N v' (n+1) (xs++cs)->w.grownBy w' v.ownBlock->(v'.ownBlock=v.ownBlock\/v'.ownBlock=some w.heap.size)->wpList P ops Q rest (a.put o.dst v') w'):wpList P ops Q (o::rest) a w:=
 wpList_plain hgd fun _ hK=>append_row s x ho hT hu hZ hN hBY base v n xs hs hown b cs hx hb hcs h1 hfew hbase fun v' w' h1 h2 h3=>hK _ _ (h v' w' h1 h2 h3)
end
theorem set1_other{w:World}{k b:Nat}{ob:Obj}(h:w.heap[k]?=some ob)(hb:k≠b)(o:Nat)(v:Value):(w.setCell ⟨b,o,none⟩ v).heap[k]?=some ob:=(aM w ⟨b,o,none⟩ v k hb).trans h
theorem keep_b{w w':World}{k:Nat}{ob:Obj}(h:w.heap[k]?=some ob)(hb:Bl w w'):w'.heap[k]?=some ob:=(hb.block k (aC.1 h).1).trans h
theorem vlInfo:(Tryz.prog.info? 26).map (·.size)=some 3:=by kernel_rfl
theorem bdInfo:(Tryz.prog.info? 30).map (·.size)=some 9:=by kernel_rfl
theorem vlFull:(Tryz.prog.info? 26).map (fun i=>(i.zero,i.size,i.bytes))=some (some (.agg #[.int .i64 0,.int .i64 0,S []]),3,32):=by kernel_rfl
theorem bdFull:(Tryz.prog.info? 30).map (fun i=>(i.zero,i.size,i.bytes))=some (some (.agg #[.int .i64 0,.int .i64 0,.int .i64 0,.int .i64 0,S [],.int .i64 0,.int .i64 0,S [],.slice none 0 0]),9,104):=by kernel_rfl
theorem tyFull:(Tryz.prog.info? 23).map (fun i=>(i.zero,i.size,i.bytes))=some (some (.int .i64 0),1,8):=by kernel_rfl
end
section
theorem nine{W:World}{b:Nat}{x0 x1 x2 x3 x4 x5 x6 x7 x8:Value}{t:TypeId}(h:W.heap[b]?=some (.cells #[x0,x1,x2,x3,x4,x5,x6,x7,x8] t (0,0))):
  W.cell? ⟨b,0,none⟩=some x0/\W.cell? ⟨b,1,none⟩=some x1/\W.cell? ⟨b,2,none⟩=some x2/\W.cell? ⟨b,3,none⟩=some x3/\W.cell? ⟨b,4,none⟩=some x4/\W.cell? ⟨b,5,none⟩=some x5/\W.cell? ⟨b,6,none⟩=some x6/\W.cell? ⟨b,7,none⟩=some x7/\W.cell? ⟨b,8,none⟩=some x8:=
 ⟨by rw[aG h];rfl,by rw[aG h];rfl,by rw[aG h];rfl,by rw[aG h];rfl,by rw[aG h];rfl,by rw[aG h];rfl,by rw[aG h];rfl,by rw[aG h];rfl,by rw[aG h];rfl⟩
theorem d2k.nine{W:World}{b o:Nat}{x:Bd}{s:Value}(h:d2k W b o (cells9 x s)):
  W.cell? ⟨b,o,none⟩=some (.int .i64 x.k)/\W.cell? ⟨b,o+1,none⟩=some (.int .i64 x.t)/\W.cell? ⟨b,o+2,none⟩=some (.int .i64 x.v.1)/\W.cell? ⟨b,o+3,none⟩=some (.int .i64 x.v.2.1)/\W.cell? ⟨b,o+4,none⟩=some (S x.v.2.2)/\W.cell? ⟨b,o+5,none⟩=some (.int .i64 x.p)/\W.cell? ⟨b,o+6,none⟩=some (.int .i64 x.o)/\W.cell? ⟨b,o+7,none⟩=some (S x.n)/\W.cell? ⟨b,o+8,none⟩=some s:=
 ⟨h 0 _ rfl,h 1 _ rfl,h 2 _ rfl,h 3 _ rfl,h 4 _ rfl,h 5 _ rfl,h 6 _ rfl,h 7 _ rfl,h 8 _ rfl⟩
theorem three3{W:World}{b:Nat}{x0 x1 x2:Value}{t:TypeId}(h:W.heap[b]?=some (.cells #[x0,x1,x2] t (0,0))):W.cell? ⟨b,0,none⟩=some x0/\W.cell? ⟨b,1,none⟩=some x1/\W.cell? ⟨b,2,none⟩=some x2:=
 ⟨by rw[aG h];rfl,by rw[aG h];rfl,by rw[aG h];rfl⟩
theorem d2k.three{W:World}{b o:Nat}{v:Vl}(h:d2k W b o (cells3 v)):
  W.cell? ⟨b,o,none⟩=some (.int .i64 v.1)/\W.cell? ⟨b,o+1,none⟩=some (.int .i64 v.2.1)/\W.cell? ⟨b,o+2,none⟩=some (S v.2.2):=
 ⟨h 0 _ rfl,h 1 _ rfl,h 2 _ rfl⟩
theorem samesD_len:∀{l m:List Bd},samesD l m=true->l.length=m.length
 |[],[],_=>rfl
 |[],_::_,h=>by simp[samesD] at h
 |_::_,[],h=>by simp[samesD] at h
 |x::l,y::m,h=>by
  simp only[samesD,aQ] at h;simp[samesD_len h.2]
theorem ReadsVl.shape{p:Nat->Prop}{W:World}{sv:Value}{l:List Vl}(h:ReadsVl p W sv l):∃a cap,sv= .slice a l.length cap/\∀j,(h:j<l.length)->∃b off,a=some ⟨b,off,none⟩/\p b/\b<W.heap.size/\d2k W b (off+j * 3) (cells3 l[j]):=by
 obtain⟨a,cap,e,h⟩:=h;exact⟨a,cap,e,fun j hj=>h j _ (aP hj)⟩
end
section
abbrev panE(n:Int):Ending:= .panicked [{v:= .iface 37 (.int .i64 n),recovered:=false}]
def resV(r:Vl×Int):Ending:=if r.2=0 then .returned (VlV r.1) else panE r.2
theorem resV_yes(v:Vl):resV (v,0)= .returned (VlV v):=rfl
theorem numV_yes{n:Int}(h0: -9223372036854775808<=n)(h1:n<=9223372036854775807):resV (numV n)= .returned (V 2 n []):=by
 unfold numV fits64;rw[decide_eq_true h0,decide_eq_true h1];rfl
theorem numV_no{n:Int}(h:9223372036854775807<n\/n< -9223372036854775808):resV (numV n)=panE 122:=by
 have e:fits64 n=false:=by
  unfold fits64;rcases h with h|h
  ·rw[decide_eq_false (show ¬n<=9223372036854775807 by omega),Bool.and_false]
  ·rw[decide_eq_false (show ¬-9223372036854775808<=n by omega),pK]
 unfold numV;rw[e];rfl
theorem wrap_over{n:Int}(h:9223372036854775807<n)(h2:n<27670116110564327424):IntKind.i64.wrap n=n-18446744073709551616:=by
 simp[IntKind.wrap,IntKind.bits,IntKind.signed];omega
theorem wrap_under{n:Int}(h:n< -9223372036854775808)(h2: -27670116110564327424<n):IntKind.i64.wrap n=n+18446744073709551616:=by
 simp[IntKind.wrap,IntKind.bits,IntKind.signed];omega
abbrev PV(k n:Int)(s:List UInt8)(k' n':Int)(s':List UInt8):Value:= .agg #[.int .i64 k,.int .i64 n,S s,.int .i64 k',.int .i64 n',S s']
theorem snumber_yes(n:Int)(w:World):Calls Tryz.prog 176 #[.int .i64 n,.bool true] w fun e w'=>e= .returned (V 2 n [])/\Bl w w':=by
 go_enter Tryz.func176,Tryz.ntmps176;go_wp2_with fail
 (with_reducible refine(smust_yes _ _).mono ?_)
 rintro e w1 ⟨rfl,rfl⟩;go_wp2;exact bodyPost_ret (v:=V 2 n []) (by simp[results,Tryz.results176,go_sem]) rfl ⟨rfl,(Bl.refl _).alloc _⟩
theorem snumber_no(n:Int)(w:World):Calls Tryz.prog 176 #[.int .i64 n,.bool false] w fun e w'=>e=panE 122/\Bl w w':=by
 go_enter Tryz.func176,Tryz.ntmps176;go_wp2_with fail
 (with_reducible refine(smust_no _ _).mono ?_)
 rintro e w1 ⟨rfl,rfl⟩;go_wp2;exact⟨rfl,rfl,(Bl.refl _).alloc _⟩
theorem spadd_any(k n:Int)(s:List UInt8)(k' n':Int)(s':List UInt8)(ha0: -9223372036854775808<=n)(ha1:n<=9223372036854775807)(hb0: -9223372036854775808<=n')(hb1:n'<=9223372036854775807)(w:World):
  Calls Tryz.prog 153 #[PV k n s k' n' s'] w fun e w'=>e=resV (numV (n+n'))/\Bl w w':=by
 by_cases h9:9223372036854775807<n+n'
 ·rw[numV_no (.inl h9)];have hw:=wrap_over h9 (by omega);have h1:¬n<n+n'-18446744073709551616:=(by omega);have h2:0<n':=(by omega);have h3:¬n'=0:=(by omega);have h4:(n'==0)=false:=(by simpa using h3);go_enter Tryz.func153,Tryz.ntmps153;go_wp2_with fail
  (with_reducible refine(snumber_no _ _).mono ?_)
  rintro e w1 ⟨rfl,hb1⟩;go_wp2;exact⟨rfl,rfl,(((Bl.refl w).alloc _).alloc _).call hb1⟩
 by_cases h8:n+n'< -9223372036854775808
 ·rw[numV_no (.inr h8)];have hw:=wrap_under h8 (by omega);have h1:n<n+n'+18446744073709551616:=(by omega);have h2:¬0<n':=(by omega);have h3:¬n'=0:=(by omega);have h4:(n'==0)=false:=(by simpa using h3);go_enter Tryz.func153,Tryz.ntmps153;go_wp2_with fail
  (with_reducible refine(snumber_no _ _).mono ?_)
  rintro e w1 ⟨rfl,hb1⟩;go_wp2;exact⟨rfl,rfl,(((Bl.refl w).alloc _).alloc _).call hb1⟩
 by_cases h3:n'=0
 ·subst h3;have e0:n+0=n:=Int.add_zero n;rw[e0];have hw:IntKind.i64.wrap (n+0)=n:=(by rw[e0];simp[IntKind.wrap,IntKind.bits,IntKind.signed];omega);have hw2:IntKind.i64.wrap n=n:=(by simp[IntKind.wrap,IntKind.bits,IntKind.signed];omega);rw[numV_yes ha0 ha1];clear e0 h9 h8;go_enter Tryz.func153,Tryz.ntmps153;go_wp2_with fail
  (with_reducible refine(snumber_yes _ _).mono ?_)
  rintro e w1 ⟨rfl,hb1⟩;have HX1:=aB ((hb1.block _ (by simp)).trans (aV (w.alloc (.cells #[.int .i64 k,.int .i64 n,S s,.int .i64 k',.int .i64 (0),S s'] 162)) (.cells #[.int .i64 0,.int .i64 0,S []] 26) (k:=w.heap.size+1) (by simp)));have HB1:=aB ((((Bl.refl w).alloc (.cells #[.int .i64 k,.int .i64 n,S s,.int .i64 k',.int .i64 (0),S s'] 162)).alloc (.cells #[.int .i64 0,.int .i64 0,S []] 26)).call hb1);clear hb1;go_wp2_with (refine bA rfl rfl rfl rfl (cells3 (2,n,[])) HX1.o rfl rfl vlInfo rfl ?_)
  intro w9 hB9 hX9;go_wp2;refine bodyPost_ret (v:=VlV (2,n,[])) (results_cell_row (p:=2) (ty:=26) rfl _ _ (w.heap.size+1) 26 _ (0,0) _ rfl hX9 Tryz.underlying26 rfl vlInfo) rfl ⟨rfl,?_⟩;exact hB9.bl HB1.o (by omega)
 rw[numV_yes (by omega) (by omega)];have hw:IntKind.i64.wrap (n+n')=n+n':=(by simp[IntKind.wrap,IntKind.bits,IntKind.signed];omega);have h4:(n'==0)=false:=(by simpa using h3);by_cases h2:0<n'
 ·have h1:n<n+n':=by omega
  go_enter Tryz.func153,Tryz.ntmps153;go_wp2_with fail
  (with_reducible refine(snumber_yes _ _).mono ?_)
  rintro e w1 ⟨rfl,hb1⟩;have HX1:=aB ((hb1.block _ (by simp)).trans (aV (w.alloc (.cells #[.int .i64 k,.int .i64 n,S s,.int .i64 k',.int .i64 (n'),S s'] 162)) (.cells #[.int .i64 0,.int .i64 0,S []] 26) (k:=w.heap.size+1) (by simp)));have HB1:=aB ((((Bl.refl w).alloc (.cells #[.int .i64 k,.int .i64 n,S s,.int .i64 k',.int .i64 (n'),S s'] 162)).alloc (.cells #[.int .i64 0,.int .i64 0,S []] 26)).call hb1);clear hb1;go_wp2_with (refine bA rfl rfl rfl rfl (cells3 (2,n+n',[])) HX1.o rfl rfl vlInfo rfl ?_)
  intro w9 hB9 hX9;go_wp2;refine bodyPost_ret (v:=VlV (2,n+n',[])) (results_cell_row (p:=2) (ty:=26) rfl _ _ (w.heap.size+1) 26 _ (0,0) _ rfl hX9 Tryz.underlying26 rfl vlInfo) rfl ⟨rfl,?_⟩;exact hB9.bl HB1.o (by omega)
 ·have h1:¬n<n+n':=by omega
  go_enter Tryz.func153,Tryz.ntmps153;go_wp2_with fail
  (with_reducible refine(snumber_yes _ _).mono ?_)
  rintro e w1 ⟨rfl,hb1⟩;have HX1:=aB ((hb1.block _ (by simp)).trans (aV (w.alloc (.cells #[.int .i64 k,.int .i64 n,S s,.int .i64 k',.int .i64 (n'),S s'] 162)) (.cells #[.int .i64 0,.int .i64 0,S []] 26) (k:=w.heap.size+1) (by simp)));have HB1:=aB ((((Bl.refl w).alloc (.cells #[.int .i64 k,.int .i64 n,S s,.int .i64 k',.int .i64 (n'),S s'] 162)).alloc (.cells #[.int .i64 0,.int .i64 0,S []] 26)).call hb1);clear hb1;go_wp2_with (refine bA rfl rfl rfl rfl (cells3 (2,n+n',[])) HX1.o rfl rfl vlInfo rfl ?_)
  intro w9 hB9 hX9;go_wp2;refine bodyPost_ret (v:=VlV (2,n+n',[])) (results_cell_row (p:=2) (ty:=26) rfl _ _ (w.heap.size+1) 26 _ (0,0) _ rfl hX9 Tryz.underlying26 rfl vlInfo) rfl ⟨rfl,?_⟩;exact hB9.bl HB1.o (by omega)
theorem spsub_any(k n:Int)(s:List UInt8)(k' n':Int)(s':List UInt8)(ha0: -9223372036854775808<=n)(ha1:n<=9223372036854775807)(hb0: -9223372036854775808<=n')(hb1:n'<=9223372036854775807)(w:World):
  Calls Tryz.prog 154 #[PV k n s k' n' s'] w fun e w'=>e=resV (numV (n-n'))/\Bl w w':=by
 by_cases h9:9223372036854775807<n-n'
 ·rw[numV_no (.inl h9)];have hw:=wrap_over h9 (by omega);have h1:n-n'-18446744073709551616<n:=(by omega);have h2:¬0<n':=(by omega);have h3:¬n'=0:=(by omega);have h4:(n'==0)=false:=(by simpa using h3);go_enter Tryz.func154,Tryz.ntmps154;go_wp2_with fail
  (with_reducible refine(snumber_no _ _).mono ?_)
  rintro e w1 ⟨rfl,hb1⟩;go_wp2;exact⟨rfl,rfl,(((Bl.refl w).alloc _).alloc _).call hb1⟩
 by_cases h8:n-n'< -9223372036854775808
 ·rw[numV_no (.inr h8)];have hw:=wrap_under h8 (by omega);have h1:¬n-n'+18446744073709551616<n:=(by omega);have h2:0<n':=(by omega);have h3:¬n'=0:=(by omega);have h4:(n'==0)=false:=(by simpa using h3);go_enter Tryz.func154,Tryz.ntmps154;go_wp2_with fail
  (with_reducible refine(snumber_no _ _).mono ?_)
  rintro e w1 ⟨rfl,hb1⟩;go_wp2;exact⟨rfl,rfl,(((Bl.refl w).alloc _).alloc _).call hb1⟩
 by_cases h3:n'=0
 ·subst h3;have e0:n-0=n:=Int.sub_zero n;rw[e0];have hw:IntKind.i64.wrap (n-0)=n:=(by rw[e0];simp[IntKind.wrap,IntKind.bits,IntKind.signed];omega);have hw2:IntKind.i64.wrap n=n:=(by simp[IntKind.wrap,IntKind.bits,IntKind.signed];omega);rw[numV_yes ha0 ha1];clear e0 h9 h8;go_enter Tryz.func154,Tryz.ntmps154;go_wp2_with fail
  (with_reducible refine(snumber_yes _ _).mono ?_)
  rintro e w1 ⟨rfl,hb1⟩;have HX1:=aB ((hb1.block _ (by simp)).trans (aV (w.alloc (.cells #[.int .i64 k,.int .i64 n,S s,.int .i64 k',.int .i64 (0),S s'] 162)) (.cells #[.int .i64 0,.int .i64 0,S []] 26) (k:=w.heap.size+1) (by simp)));have HB1:=aB ((((Bl.refl w).alloc (.cells #[.int .i64 k,.int .i64 n,S s,.int .i64 k',.int .i64 (0),S s'] 162)).alloc (.cells #[.int .i64 0,.int .i64 0,S []] 26)).call hb1);clear hb1;go_wp2_with (refine bA rfl rfl rfl rfl (cells3 (2,n,[])) HX1.o rfl rfl vlInfo rfl ?_)
  intro w9 hB9 hX9;go_wp2;refine bodyPost_ret (v:=VlV (2,n,[])) (results_cell_row (p:=2) (ty:=26) rfl _ _ (w.heap.size+1) 26 _ (0,0) _ rfl hX9 Tryz.underlying26 rfl vlInfo) rfl ⟨rfl,?_⟩;exact hB9.bl HB1.o (by omega)
 rw[numV_yes (by omega) (by omega)];have hw:IntKind.i64.wrap (n-n')=n-n':=(by simp[IntKind.wrap,IntKind.bits,IntKind.signed];omega);have h4:(n'==0)=false:=(by simpa using h3);by_cases h2:0<n'
 ·have h1:n-n'<n:=by omega
  go_enter Tryz.func154,Tryz.ntmps154;go_wp2_with fail
  (with_reducible refine(snumber_yes _ _).mono ?_)
  rintro e w1 ⟨rfl,hb1⟩;have HX1:=aB ((hb1.block _ (by simp)).trans (aV (w.alloc (.cells #[.int .i64 k,.int .i64 n,S s,.int .i64 k',.int .i64 (n'),S s'] 162)) (.cells #[.int .i64 0,.int .i64 0,S []] 26) (k:=w.heap.size+1) (by simp)));have HB1:=aB ((((Bl.refl w).alloc (.cells #[.int .i64 k,.int .i64 n,S s,.int .i64 k',.int .i64 (n'),S s'] 162)).alloc (.cells #[.int .i64 0,.int .i64 0,S []] 26)).call hb1);clear hb1;go_wp2_with (refine bA rfl rfl rfl rfl (cells3 (2,n-n',[])) HX1.o rfl rfl vlInfo rfl ?_)
  intro w9 hB9 hX9;go_wp2;refine bodyPost_ret (v:=VlV (2,n-n',[])) (results_cell_row (p:=2) (ty:=26) rfl _ _ (w.heap.size+1) 26 _ (0,0) _ rfl hX9 Tryz.underlying26 rfl vlInfo) rfl ⟨rfl,?_⟩;exact hB9.bl HB1.o (by omega)
 ·have h1:¬n-n'<n:=by omega
  go_enter Tryz.func154,Tryz.ntmps154;go_wp2_with fail
  (with_reducible refine(snumber_yes _ _).mono ?_)
  rintro e w1 ⟨rfl,hb1⟩;have HX1:=aB ((hb1.block _ (by simp)).trans (aV (w.alloc (.cells #[.int .i64 k,.int .i64 n,S s,.int .i64 k',.int .i64 (n'),S s'] 162)) (.cells #[.int .i64 0,.int .i64 0,S []] 26) (k:=w.heap.size+1) (by simp)));have HB1:=aB ((((Bl.refl w).alloc (.cells #[.int .i64 k,.int .i64 n,S s,.int .i64 k',.int .i64 (n'),S s'] 162)).alloc (.cells #[.int .i64 0,.int .i64 0,S []] 26)).call hb1);clear hb1;go_wp2_with (refine bA rfl rfl rfl rfl (cells3 (2,n-n',[])) HX1.o rfl rfl vlInfo rfl ?_)
  intro w9 hB9 hX9;go_wp2;refine bodyPost_ret (v:=VlV (2,n-n',[])) (results_cell_row (p:=2) (ty:=26) rfl _ _ (w.heap.size+1) 26 _ (0,0) _ rfl hX9 Tryz.underlying26 rfl vlInfo) rfl ⟨rfl,?_⟩;exact hB9.bl HB1.o (by omega)
end
section
attribute [local go_sem] nC
theorem uptoV_all(zs:List Vl):upto (fun j=>zs[j]?.getD zVl) zs.length=zs:=by
 apply kX
 ·simp[upto]
 ·intro i h1 h2;simp[upto,h2]
theorem uptoV_take(zs:List Vl){k:Nat}(hk:k<=zs.length):upto (fun j=>zs[j]?.getD zVl) k=zs.take k:=by
 apply kX
 ·simp[upto,hk]
 ·intro i h1 h2;have:i<zs.length:=(by simp[upto] at h1;omega);simp[upto,this]
theorem Ints.more{w W:World}(hb:Bl w W){sv:Value}{zs:List Int}:Ints w.heap.size w sv zs->Ints W.heap.size W sv zs
 | .inl e=> .inl e
 | .inr ⟨b,off,cap,e,h,hc⟩=> .inr ⟨b,off,cap,e,gK h hb.size,fun j hj=>Bl.cell hb (hc j hj)⟩
theorem ints_cell{n:Nat}{W:World}{a:Option Addr}{cap:Nat}{zs:List Int}(h:Ints n W (.slice a zs.length cap) zs){j:Nat}(hj:j<zs.length):∃b off,a=some ⟨b,off,none⟩/\W.cell? ⟨b,off+j,none⟩=some (.int .i64 zs[j]):=by
 rcases h with⟨-,rfl⟩|⟨b,off,cap',e,-,hc⟩
 ·cases hj
 ·injection e with e1 e2 e3;refine⟨b,off,e1,?_⟩;rw[hc j hj,aP hj,oQ]
def VlsL(n₀:Nat)(W:World)(sv:Value)(zs:List Vl):Prop:=∃a cap,sv= .slice a zs.length cap/\∀j,j<zs.length->∃b off,a=some ⟨b,off,none⟩/\b<n₀/\d2k W b (off+j * 3) (cells3 (zs[j]?.getD zVl))
theorem VlsL.below{n₀:Nat}{A B:World}(h:Below n₀ A B){sv:Value}{zs:List Vl}(k:VlsL n₀ A sv zs):VlsL n₀ B sv zs:=by
 obtain⟨a,cap,e,hc⟩:=k;refine⟨a,cap,e,fun j hj=>?_⟩;obtain⟨b,off,e2,hb,h3⟩:=hc j hj;exact⟨b,off,e2,hb,h3.keep (h.block b hb)⟩
theorem vlsL_of{p:Nat->Prop}{W:World}{sv:Value}{l:List Vl}(h:ReadsVl p W sv l):VlsL W.heap.size W sv l:=by
 obtain⟨a,cap,e,hc⟩:=h;refine⟨a,cap,e,fun j hj=>?_⟩;obtain⟨b,off,e2,-,hb,h3⟩:=hc j _ (aP hj);rw[aP hj,oQ];exact⟨b,off,e2,hb,h3⟩
set_option maxRecDepth 100000 in
theorem tyVals1_in(F:Fence)(n:Nat)(h7:F.fn 185)(hro:F.round=none)(hn:1<=n)(l Bs n₀ b off len cap:Nat)(zs:List Int)(hreach:len * 8<=140737488351232)(hb:b<n₀)(J Jx:List Int->World->Prop)
  (hY:∀pre x W,J pre W->pre.length<len->YieldAt F (n-1) Tryz.prog l #[.int .i64 x] W fun e W'=>
   (e= .returned (.bool true)/\J (pre++[x]) W'/\Below n₀ W W')\/(e= .returned (.bool false)/\Jx (pre++[x]) W'))
  (W:World) (hBs:W.cell? ⟨Bs,0,none⟩=some (.slice (some ⟨b,off,none⟩) len cap)) (hc:∀j,j<len->W.cell? ⟨b,off+j,none⟩=some (.int .i64 (zs[j]?.getD 0))) (h0:J [] W):
  CallsIn F n Tryz.prog 185 #[.func (.yield l) #[] #[],.pointer (some ⟨Bs,0,none⟩)] W fun e W'=>(∃v,e= .returned v)/\
   ((∃ys,ys=upto (fun j=>zs[j]?.getD 0) len/\J ys W')\/(∃pre,(∃k,k<=len/\pre=upto (fun j=>zs[j]?.getD 0) k)/\Jx pre W')):=by
 refine callsIn_of_wp Tryz.func185 rfl h7 ?_ hro;simp only[Tryz.ntmps185,gG,aX,bL,Nat.reduceAdd,Nat.reduceSub,eX,eU,gH,fD,cB,bE]
 gi_wp2
 gi_loopw [7] (fun i wr=>∃k:Nat,k<=len/\i= .int .i64 k/\J (upto (fun j=>zs[j]?.getD 0) k) wr/\Below n₀ W wr)
  (fun i _=>len-(intOf i).toNat)
 case atStart=>exact⟨0,dL _,rfl,h0,bS _ _⟩
 case round=>
  obtain⟨k,hk,rfl,hJs,hnx⟩:=hrel;have hcx:k<len->wr.cell? ⟨b,off+k,none⟩=some (.int .i64 (zs[k]?.getD 0)):=fun h=>(hnx.cell (p:=⟨b,off+k,none⟩) hb).trans (hc k h);by_cases hlt:k<len
  ·obtain⟨fn,tmps,assign,body,hy,hR⟩:=hY _ (zs[k]?.getD 0) wr hJs (by rw[zN];exact hlt);have hcx':=hcx hlt
   gi_wp2
   refine hR.mono ?_;rintro e W3 (⟨rfl,hJ3,hk3⟩|⟨rfl,hJx3⟩)
   ·-- THE ROUND GOES ON
    gi_wp2
    go_roundw
    case rel=>exact⟨k+1,by omega,by simp,by rw[wH];exact hJ3,hnx.trans hk3⟩
    case measure=>simp[intOf];omega
   ·gi_wp2
    refine bodyPost_ret (results_none rfl _ _ _) rfl ?_;exact⟨⟨_,rfl⟩,.inr ⟨_,⟨k+1,by omega,(wH _ _).symm⟩,hJx3⟩⟩
  ·obtain rfl:k=len:=by omega
   gi_wp2
   go_end0;exact⟨⟨_,rfl⟩,.inl ⟨_,rfl,hJs⟩⟩
set_option maxRecDepth 100000 in
theorem tyVals1_nil(F:Fence)(n:Nat)(h7:F.fn 185)(hro:F.round=none)(l Bs:Nat)(J:List Int->World->Prop)(W:World)(hBs:W.cell? ⟨Bs,0,none⟩=some (.slice none 0 0))(h0:J [] W):
  CallsIn F n Tryz.prog 185 #[.func (.yield l) #[] #[],.pointer (some ⟨Bs,0,none⟩)] W fun e W'=>(∃v,e= .returned v)/\J [] W':=by
 refine callsIn_of_wp Tryz.func185 rfl h7 ?_ hro;simp only[Tryz.ntmps185,gG,aX,bL,Nat.reduceAdd,Nat.reduceSub,eX,eU,gH,fD,cB,bE]
 gi_wp2
 gi_loopw [7] (fun i wr=>i= .int .i64 0/\J [] wr) (fun _ _=>0)
 case atStart=>exact⟨rfl,h0⟩
 case round=>
  obtain⟨rfl,hJs⟩:=hrel
  gi_wp2
  go_end0;exact⟨⟨_,rfl⟩,hJs⟩
theorem tyVals_in(F:Fence)(n:Nat)(h5:F.fn 171)(hro:F.round=none)(a:Option Addr)(len cap:Nat)(w:World):
  CallsIn F n Tryz.prog 171 #[.slice a len cap] w fun e w'=>e= .returned (.func (.func 185) #[] #[.pointer (some ⟨w.heap.size,0,none⟩)])/\w'=w.alloc (.cells #[.slice a len cap] 137):=by
 refine callsIn_of_wp Tryz.func171 rfl h5 ?_ hro;simp only[Tryz.ntmps171,gG,aX,bL,Nat.reduceAdd,Nat.reduceSub,eX,eU,gH,fD,cB,bE]
 gi_wp2
 go_ret;exact⟨rfl,rfl⟩
theorem tyVals_stops(F:Fence)(n:Nat)(h7:F.fn 185)(hro:F.round=none)(hn:1<=n)(Bs n₀:Nat)(sv:Value)(zs:List Int)(hreach:zs.length * 8<=140737488351232)(w:World)(hBs:Bs<w.heap.size)(hn₀:n₀<=w.heap.size)
  (hc:w.cell? ⟨Bs,0,none⟩=some sv) (hI:Ints n₀ w sv zs):
  SeqStopsK F n Tryz.prog 185 #[.pointer (some ⟨Bs,0,none⟩)] (fun x:Int=> #[Value.int .i64 x]) (Below n₀) (fun ys=>ys=zs) (fun pre=>pre<+:zs) zs.length w:=fun l J Jx W hW _ _ hY h0=>by
 have hc':=(hW.cell (p:=⟨Bs,0,none⟩) hBs).trans hc;rcases hI.below (hW.mono hn₀) with⟨rfl,rfl⟩|⟨b,off,cap,rfl,hb,hcs⟩
 ·exact(tyVals1_nil F n h7 hro l Bs J W hc' h0).mono fun e W' ⟨he,hj⟩=>⟨he,.inl ⟨_,rfl,hj⟩⟩
 ·refine(tyVals1_in F n h7 hro hn l Bs n₀ b off zs.length cap zs hreach hb J Jx hY W hc' hcs h0).mono ?_;rintro e W' ⟨he,⟨ys,rfl,hj⟩|⟨pre,⟨k,hk,rfl⟩,hj⟩⟩
  ·exact⟨he,.inl ⟨_,c7l zs,hj⟩⟩
  ·exact⟨he,.inr ⟨_,by rw[c5q zs hk];exact List.take_prefix _ _,hj⟩⟩
set_option maxRecDepth 100000 in
theorem vlVals1_in(F:Fence)(n:Nat)(h7:F.fn 172)(hro:F.round=none)(hn:1<=n)(l Bs n₀ b off len cap:Nat)(zs:List Vl)(hreach:len<=1000000)(hb:0<len->b<n₀)(J Jx:List Vl->World->Prop)(hJ:∀pre W o,J pre W->J pre (W.alloc o))
  (hY:∀pre x W,J pre W->pre.length<len->YieldAt F (n-1) Tryz.prog l #[VlV x] W fun e W'=>
   (e= .returned (.bool true)/\J (pre++[x]) W'/\Below n₀ W W')\/(e= .returned (.bool false)/\Jx (pre++[x]) W'))
  (W:World) (hn₀:n₀<=W.heap.size) (hBs:W.cell? ⟨Bs,0,none⟩=some (.slice (some ⟨b,off,none⟩) len cap)) (hc:∀j,j<len->d2k W b (off+j * 3) (cells3 (zs[j]?.getD zVl))) (h0:J [] W):
  CallsIn F n Tryz.prog 172 #[.func (.yield l) #[] #[],.pointer (some ⟨Bs,0,none⟩)] W fun e W'=>(∃v,e= .returned v)/\
   ((∃ys,ys=upto (fun j=>zs[j]?.getD zVl) len/\J ys W')\/(∃pre,(∃k,k<=len/\pre=upto (fun j=>zs[j]?.getD zVl) k)/\Jx pre W')):=by
 refine callsIn_of_wp Tryz.func172 rfl h7 ?_ hro;simp only[Tryz.ntmps172,gG,aX,bL,Nat.reduceAdd,Nat.reduceSub,eX,eU,gH,fD,cB,bE]
 gi_wp2
 gi_loopw [7] (fun i wr=>∃k:Nat,k<=len/\i= .int .i64 k/\J (upto (fun j=>zs[j]?.getD zVl) k) wr/\Hid (Below n₀ W wr))
  (fun i _=>len-(intOf i).toNat)
 case atStart=>exact⟨0,dL _,rfl,h0,bS _ _⟩
 case round=>
  obtain⟨k,hk,rfl,hJs,HN⟩:=hrel;by_cases hlt:k<len
  ·have HY:=aB (fun o=>hY _ (zs[k]?.getD zVl) (wr.alloc o) (hJ _ _ _ hJs) (by rw[zN];exact hlt));have hzw:=HN.o.size;obtain⟨e0,e1,e2⟩:=((hc k hlt).keep (HN.o.block b (hb (by omega)))).three;generalize hz:zs[k]?.getD zVl=z at *;have HZ:=aB hz;clear hz;obtain⟨z1,z2,z3⟩:=z;simp only at e0 e1 e2;obtain⟨fn,tmps,assign,body,hy,hR⟩:=HY.o (.cells #[.int .i64 z1,.int .i64 z2,S z3] 26)
   gi_wp2
   refine hR.mono ?_;rintro e W3 (⟨rfl,hJ3,hk3⟩|⟨rfl,hJx3⟩)
   ·have HK3:=aB hk3;clear hk3
    gi_wp2
    go_roundw
    case rel=>exact⟨k+1,by omega,by simp,by rw[wH,HZ.o];exact hJ3,HN.o.trans (((bS _ wr).alloc (by omega) _).trans HK3.o)⟩
    case measure=>simp[intOf];omega
   ·gi_wp2
    refine bodyPost_ret (results_none rfl _ _ _) rfl ?_;exact⟨⟨_,rfl⟩,.inr ⟨_,⟨k+1,by omega,by rw[wH,HZ.o]⟩,hJx3⟩⟩
  ·obtain rfl:k=len:=by omega
   gi_wp2
   go_end0;exact⟨⟨_,rfl⟩,.inl ⟨_,rfl,hJs⟩⟩
set_option maxRecDepth 100000 in
theorem vlVals1_nil(a:Option Addr)(cap:Nat)(F:Fence)(n:Nat)(h7:F.fn 172)(hro:F.round=none)(l Bs:Nat)(J:List Vl->World->Prop)(W:World)(hBs:W.cell? ⟨Bs,0,none⟩=some (.slice a 0 cap))(h0:J [] W):
  CallsIn F n Tryz.prog 172 #[.func (.yield l) #[] #[],.pointer (some ⟨Bs,0,none⟩)] W fun e W'=>(∃v,e= .returned v)/\J [] W':=by
 refine callsIn_of_wp Tryz.func172 rfl h7 ?_ hro;simp only[Tryz.ntmps172,gG,aX,bL,Nat.reduceAdd,Nat.reduceSub,eX,eU,gH,fD,cB,bE]
 gi_wp2
 gi_loopw [7] (fun i wr=>i= .int .i64 0/\J [] wr) (fun _ _=>0)
 case atStart=>exact⟨rfl,h0⟩
 case round=>
  obtain⟨rfl,hJs⟩:=hrel
  gi_wp2
  go_end0;exact⟨⟨_,rfl⟩,hJs⟩
set_option maxRecDepth 100000 in
theorem vlVals_in(F:Fence)(n:Nat)(h5:F.fn 147)(hro:F.round=none)(a:Option Addr)(len cap:Nat)(w:World):
  CallsIn F n Tryz.prog 147 #[.slice a len cap] w fun e w'=>e= .returned (.func (.func 172) #[] #[.pointer (some ⟨w.heap.size,0,none⟩)])/\w'=w.alloc (.cells #[.slice a len cap] 36):=by
 refine callsIn_of_wp Tryz.func147 rfl h5 ?_ hro;simp only[Tryz.ntmps147,gG,aX,bL,Nat.reduceAdd,Nat.reduceSub,eX,eU,gH,fD,cB,bE]
 gi_wp2
 go_ret;exact⟨rfl,rfl⟩
theorem vlVals_stops(F:Fence)(n:Nat)(h7:F.fn 172)(hro:F.round=none)(hn:1<=n)(Bs n₀:Nat)(sv:Value)(zs:List Vl)(hreach:zs.length<=1000000)(w:World)(hBs:Bs<w.heap.size)(hn₀:n₀<=w.heap.size)
  (hc:w.cell? ⟨Bs,0,none⟩=some sv) (hI:VlsL n₀ w sv zs):
  SeqStopsK F n Tryz.prog 172 #[.pointer (some ⟨Bs,0,none⟩)] (fun x:Vl=> #[VlV x]) (Below n₀) (fun ys=>ys=zs) (fun pre=>pre<+:zs) zs.length w:=fun l J Jx W hW hJ _ hY h0=>by
 have hc':=(hW.cell (p:=⟨Bs,0,none⟩) hBs).trans hc;obtain⟨a,cap,rfl,hcs⟩:=hI.below (hW.mono hn₀);by_cases hz:zs=[]
 ·subst hz;exact(vlVals1_nil a cap F n h7 hro l Bs J W hc' h0).mono fun e W' ⟨he,hj⟩=>⟨he,.inl ⟨_,rfl,hj⟩⟩
 ·have hpos:0<zs.length:=by cases zs with |nil=>exact absurd rfl hz|cons _ _=>simp
  obtain⟨b,off,rfl,hb,-⟩:=hcs 0 hpos;have hcs':∀j,j<zs.length->d2k W b (off+j * 3) (cells3 (zs[j]?.getD zVl)):=fun j hj=>by
   obtain⟨b',off',e,_,c⟩:=hcs j hj;injection e with e;injection e with e1 e2 _;subst e1;subst e2;exact c
  refine(vlVals1_in F n h7 hro hn l Bs n₀ b off zs.length cap zs hreach (fun _=>hb) J Jx (fun pre W1 o h=>hJ pre W1 _ none h (World.grownBy_alloc _ _ none) (fun r e=>by cases e)) hY W (jH hn₀ hW.size) hc' hcs' h0).mono ?_;rintro e W' ⟨he,⟨ys,rfl,hj⟩|⟨pre,⟨k,hk,rfl⟩,hj⟩⟩
  ·exact⟨he,.inl ⟨_,uptoV_all zs,hj⟩⟩
  ·exact⟨he,.inr ⟨_,by rw[uptoV_take zs hk];exact List.take_prefix _ _,hj⟩⟩
theorem sallV_leave{W A:World}{D:Nat}{a:Act}{z:Bool}(hD:W.heap.size+2<=D)(ht:a.tmps[4]?=some (.pointer (some ⟨W.heap.size+1,0,none⟩)))(hd:a.defers=[{target:= .collected D,args:= #[]}])
  (hK:A.heap[D]?=some (.deferred (some []))) (h1:Boxed A (W.heap.size+1) 4 (.bool z)) (hB:Below W.heap.size W A):
  bodyPostM Fence.wide 5 Tryz.prog Tryz.f121 (fun e w'=>e= .returned (.bool z)/\Bl W w') .ret a A:=by
 obtain⟨tm,df⟩:=a;simp only at ht hd;subst hd;refine⟨by simp,.inl ⟨_,_,rfl,run_takeDeferred hK,?_⟩⟩;have hgp:=grownBy_putObj' A D (.deferred none);have c:=(h1.kept hgp (by simp;omega)).cell;exact⟨.bool z,by simp[results,Tryz.results121,go_sem,ht,c],rfl,hB.grown hgp hB.size (fun k e=>by cases e;omega)⟩
theorem sallV_any(g:FuncId)(caps:Array Value)(pr:Vl->Bool)(a:Option Addr)(cap:Nat)(zs:List Vl)(hfew:zs.length<=1000000)(W:World)(heng:∀(args:Array Value) (w:World),(callFunc g args).run Tryz.prog w= .ok (.enter g args) w)
  (hf:∀(x:Vl) (W':World),Bl W W'->Calls Tryz.prog g (#[VlV x]++caps) W' fun e w'=>e= .returned (.bool (pr x))/\Bl W' w') (hI:VlsL W.heap.size W (.slice a zs.length cap) zs):
  Calls Tryz.prog 121 #[.slice a zs.length cap,.func (.func g) #[] caps] W fun e w'=>e= .returned (.bool (zs.all pr))/\Bl W w':=by
 obtain⟨R,HR⟩:∃R,Hid (zs.all pr=R):=⟨_,rfl⟩
 rw[HR.o];have HF:=aB hf;have HI:=aB hI;have HFEW:=aB hfew;clear hf hI hfew;refine(callsIn_wide (n:=5)).1 ?_;refine callsIn_of_wp_marks Tryz.func121 rfl trivial ?_ rfl;simp only[Tryz.ntmps121,gG,aX,bL,Nat.reduceAdd,Nat.reduceSub,eX,eU,gH,fD,cB,bE]
 gi_wp2_with fail
 refine⟨trivial,?_⟩;refine(vlVals_in Fence.wide 4 trivial rfl _ _ _ _).mono ?_;rintro e w' ⟨rfl,rfl⟩
 gi_wp2_with fail
 have bGv:=((Boxed.new W 90 (.func (.func g) #[] caps)).alloc (.cells #[.bool false] 4)).alloc (.cells #[.slice a zs.length cap] 36);have bRv:=(Boxed.new (W.alloc (.cells #[.func (.func g) #[] caps] 90)) 4 (.bool false)).alloc (.cells #[.slice a zs.length cap] 36);have bNv:=Boxed.new ((W.alloc (.cells #[.func (.func g) #[] caps] 90)).alloc (.cells #[.bool false] 4)) 36 (.slice a zs.length cap);simp only[aR] at bRv bNv;have hB2:Below W.heap.size W (((W.alloc (.cells #[.func (.func g) #[] caps] 90)).alloc (.cells #[.bool false] 4)).alloc (.cells #[.slice a zs.length cap] 36)):=(((Bl.refl W).alloc _).alloc _).alloc _;have hsz:(((W.alloc (.cells #[.func (.func g) #[] caps] 90)).alloc (.cells #[.bool false] 4)).alloc (.cells #[.slice a zs.length cap] 36)).heap.size=W.heap.size+1+1+1:=(by simp);obtain⟨W0,hW0⟩:∃W0,((W.alloc (.cells #[.func (.func g) #[] caps] 90)).alloc (.cells #[.bool false] 4)).alloc (.cells #[.slice a zs.length cap] 36)=W0:=⟨_,rfl⟩
 rw[hW0] at bGv bRv bNv hB2 hsz⊢;clear hW0;refine wpIn_rangeFunc_ownH rfl (by omega) (gf:=172) (lb:= #[.pointer (some ⟨W.heap.size+1+1,0,none⟩)]) rfl trivial (enters_of Tryz.func172 (by kernel_rfl) rfl)
  (vlVals_stops Fence.wide (5-1) trivial rfl (by omega) (W.heap.size+1+1) W.heap.size _ zs HFEW.o W0 (by omega) (by omega) bNv.cell (HI.o.below hB2)) belowK_t (belowK_b (by omega)) (bS _ _) (fun _=>rfl)
  (fun pre A=>Boxed A W.heap.size 90 (.func (.func g) #[] caps)/\Boxed A (W.heap.size+1) 4 (.bool false)/\Below W.heap.size W A/\∀x∈pre,pr x=true)
  (fun c pre A=>c= .ret/\Boxed A (W.heap.size+1) 4 (.bool false)/\Below W.heap.size W A/\∃x∈pre,pr x=false)
  (fun s A B row hs hg hr=>⟨boxed_own W.heap.size 90 (fun(_:Unit)=>Value.func (.func g) #[] caps) () A B row hs.1 hg (fun r e=>(hr r e).2),boxed_own (W.heap.size+1) 4 (fun(_:Unit)=>Value.bool false) () A B row hs.2.1 hg (fun r e=>(hr r e).2),ownFrom_below (β:=Unit) (aH _) (by omega) () A B row hs.2.2.1 hg hr,hs.2.2.2⟩)
  (fun c s A B row hs hg hr=>⟨hs.1,boxed_own (W.heap.size+1) 4 (fun(_:Unit)=>Value.bool false) () A B row hs.2.1 hg (fun r e=>(hr r e).2),ownFrom_below (β:=Unit) (aH _) (by omega) () A B row hs.2.2.1 hg hr,hs.2.2.2⟩)
  ⟨bGv,bRv,hB2,fun x hx=>by cases hx⟩
  (fun x a' A=>∃Bx,A.heap[Bx]?=some (.cells #[.int .i64 x.1,.int .i64 x.2.1,S x.2.2] 26 (0,0))/\
   a'={tmps:= #[.slice a zs.length cap,.func (.func g) #[] caps,undef,.pointer (some ⟨W.heap.size,0,none⟩),.pointer (some ⟨W.heap.size+1,0,none⟩),.pointer (some ⟨Bx,0,none⟩),.slice a zs.length cap,.func (.func 172) #[] #[.pointer (some ⟨W.heap.size+1+1,0,none⟩)],VlV x,undef,undef,undef,undef],defers:=[]})
  (fun x a' _ A B row hs hg hr=>by
   obtain⟨Bx,h1,h2⟩:=hs;refine⟨Bx,(hg.block Bx (aC.1 h1).1 (fun e=>?_)).trans h1,h2⟩;obtain⟨-,o,ho,hc⟩:=hr Bx e.symm;rw[h1] at ho;cases ho;cases hc)
  ?assign ?body ?done ?stop
 case assign=>
  rintro l pre ⟨x1,x2,x3⟩ A K ⟨hg,hb,hB,hp⟩ hK
  revert hK
  dsimp only;intro hK
  gi_wp2
  exact hK _ _ ((KeepsOthers.alloc _ _).from _) ((bS _ A).alloc hB.size _) ⟨hg.alloc _,hb.alloc _,hB.alloc hB.size _,hp⟩ ⟨A.heap.size,aN A _,rfl⟩
 case body=>
  rintro l pre ⟨x1,x2,x3⟩ a' A hl ⟨r,hr⟩ ⟨hg,hb,hB,hp⟩ ⟨Bx,hX,rfl⟩ _;have HX:=aB (HF.o (x1,x2,x3) A hB);have HN1:Hid (pr (x1,x2,x3)=true->∀i∈pre++[(x1,x2,x3)],pr i=true):=fun h i hi=>by
   rcases iX.1 hi with hi|hi
   ·exact hp i hi
   ·obtain rfl:=gQ.1 hi;exact h
  have HN2:Hid (pr (x1,x2,x3)=false->∃i∈pre++[(x1,x2,x3)],pr i=false):=fun h=>⟨_,by simp,h⟩
  clear hp hr;dsimp only at hX;obtain⟨e0,e1,e2⟩:=three3 hX;clear hX;have hlr:=hb.lt;have cg:=hg.cell;cases hc:pr (x1,x2,x3)
  ·have HC:=aB hc;have HN:=aB (HN2.o hc);clear hc HN1 HN2
   gi_wp2_with fail
   refine⟨trivial,?_⟩;refine(CallsIn.inRound l (callsIn_wide.2 HX.o)).mono ?_;rintro e A2 ⟨rfl,hb2⟩;rw[HC.o];have hbx2:Boxed A2 (W.heap.size+1) 4 (.bool false):=(hb2.block _ hlr).trans hb;have c0:=hbx2.cell;have z0:=aJ (show A2.heap[W.heap.size+1]?=_ from hbx2) 0;have HH:=aB (bT hb2 (bT hB hbx2));clear hb2 hB hbx2 hb e0 e1 e2 cg hg
   gi_wp2
   exact⟨((KeepsOthers.of_bl HH.o.1).trans (KeepsOthers.setCell _ _ _)).from _,rfl,HH.o.2.2.set _,(HH.o.2.1.trans (HH.o.1.mono HH.o.2.1.size)).setCell (p:=⟨W.heap.size+1,0,none⟩) (by show W.heap.size<=W.heap.size+1;omega) _,HN.o⟩
  ·have HC:=aB hc;have HN:=aB (HN1.o hc);clear hc HN1 HN2
   gi_wp2_with fail
   refine⟨trivial,?_⟩;refine(CallsIn.inRound l (callsIn_wide.2 HX.o)).mono ?_;rintro e A2 ⟨rfl,hb2⟩;rw[HC.o];have HH:=aB (bT hb2 (bT hB (bT (show Boxed A2 (W.heap.size+1) 4 (.bool false) from(hb2.block _ hlr).trans hb) (show Boxed A2 W.heap.size 90 (.func (.func g) #[] caps) from(hb2.block _ hg.lt).trans hg))));clear hb2 hB hb hg e0 e1 e2 cg
   gi_wp2
   exact⟨(KeepsOthers.of_bl HH.o.1).from _,HH.o.1.mono HH.o.2.1.size,HH.o.2.2.2,HH.o.2.2.1,HH.o.2.1.trans (HH.o.1.mono HH.o.2.1.size),HN.o⟩
 case done=>
  rintro D ys A hD rfl ⟨hg,hb,hB,hp⟩ hK;have HC:=aB (show R=true from by
   rw[<-HR.o,jA];exact hp)
  have c0:=hb.cell;have z0:=aJ (show A.heap[W.heap.size+1]?=_ from hb) 0;have hDD:W.heap.size+2<=D:=(by omega);have HH:=aB (bT ((aM A ⟨W.heap.size+1,0,none⟩ (.bool true) D (by show D≠W.heap.size+1;omega)).trans hK) (bT hB (hb.set (.bool true))));clear hb hB hK hp hg
  gi_wp2
  exact sallV_leave hDD rfl rfl HH.o.1 (by rw[HC.o];exact HH.o.2.2) (HH.o.2.1.setCell (p:=⟨W.heap.size+1,0,none⟩) (by show W.heap.size<=W.heap.size+1;omega) _)
 case stop=>
  rintro D c pre A hD hpre ⟨rfl,hb,hB,hp⟩ hK;have HC:=aB (show R=false from by
   obtain⟨x,hx,hf⟩:=hp;obtain⟨r,hr⟩:=hpre;have hm:x∈zs:=(by rw[<-hr];exact List.mem_append_left _ hx);rw[<-HR.o];cases hall:zs.all pr
   ·rfl
   ·rw[jA] at hall;rw[hall x hm] at hf;cases hf)
  have HH:=aB (bT hK (bT hB hb));clear hb hB hK hp
  gi_wp2
  exact sallV_leave (by omega) rfl rfl HH.o.1 (by rw[HC.o];exact HH.o.2.2) HH.o.2.1
theorem sallT_leave{W A:World}{D:Nat}{a:Act}{z:Bool}(hD:W.heap.size+2<=D)(ht:a.tmps[4]?=some (.pointer (some ⟨W.heap.size+1,0,none⟩)))(hd:a.defers=[{target:= .collected D,args:= #[]}])
  (hK:A.heap[D]?=some (.deferred (some []))) (h1:Boxed A (W.heap.size+1) 4 (.bool z)) (hB:Below W.heap.size W A):
  bodyPostM Fence.wide 5 Tryz.prog Tryz.f144 (fun e w'=>e= .returned (.bool z)/\Bl W w') .ret a A:=by
 obtain⟨tm,df⟩:=a;simp only at ht hd;subst hd;refine⟨by simp,.inl ⟨_,_,rfl,run_takeDeferred hK,?_⟩⟩;have hgp:=grownBy_putObj' A D (.deferred none);have c:=(h1.kept hgp (by simp;omega)).cell;exact⟨.bool z,by simp[results,Tryz.results144,go_sem,ht,c],rfl,hB.grown hgp hB.size (fun k e=>by cases e;omega)⟩
theorem sallT_any(g:FuncId)(caps:Array Value)(pr:Int->Bool)(a:Option Addr)(cap:Nat)(zs:List Int)(hfew:zs.length * 8<=140737488351232)(W:World)(heng:∀(args:Array Value) (w:World),(callFunc g args).run Tryz.prog w= .ok (.enter g args) w)
  (hf:∀(x:Int) (W':World),Bl W W'->Calls Tryz.prog g (#[Value.int .i64 x]++caps) W' fun e w'=>e= .returned (.bool (pr x))/\Bl W' w') (hI:Ints W.heap.size W (.slice a zs.length cap) zs):
  Calls Tryz.prog 144 #[.slice a zs.length cap,.func (.func g) #[] caps] W fun e w'=>e= .returned (.bool (zs.all pr))/\Bl W w':=by
 obtain⟨R,HR⟩:∃R,Hid (zs.all pr=R):=⟨_,rfl⟩
 rw[HR.o];have HF:=aB hf;have HI:=aB hI;have HFEW:=aB hfew;clear hf hI hfew;refine(callsIn_wide (n:=5)).1 ?_;refine callsIn_of_wp_marks Tryz.func144 rfl trivial ?_ rfl;simp only[Tryz.ntmps144,gG,aX,bL,Nat.reduceAdd,Nat.reduceSub,eX,eU,gH,fD,cB,bE]
 gi_wp2_with fail
 refine⟨trivial,?_⟩;refine(tyVals_in Fence.wide 4 trivial rfl _ _ _ _).mono ?_;rintro e w' ⟨rfl,rfl⟩
 gi_wp2_with fail
 have bGv:=((Boxed.new W 190 (.func (.func g) #[] caps)).alloc (.cells #[.bool false] 4)).alloc (.cells #[.slice a zs.length cap] 137);have bRv:=(Boxed.new (W.alloc (.cells #[.func (.func g) #[] caps] 190)) 4 (.bool false)).alloc (.cells #[.slice a zs.length cap] 137);have bNv:=Boxed.new ((W.alloc (.cells #[.func (.func g) #[] caps] 190)).alloc (.cells #[.bool false] 4)) 137 (.slice a zs.length cap);simp only[aR] at bRv bNv;have hB2:Below W.heap.size W (((W.alloc (.cells #[.func (.func g) #[] caps] 190)).alloc (.cells #[.bool false] 4)).alloc (.cells #[.slice a zs.length cap] 137)):=(((Bl.refl W).alloc _).alloc _).alloc _;have hsz:(((W.alloc (.cells #[.func (.func g) #[] caps] 190)).alloc (.cells #[.bool false] 4)).alloc (.cells #[.slice a zs.length cap] 137)).heap.size=W.heap.size+1+1+1:=(by simp);obtain⟨W0,hW0⟩:∃W0,((W.alloc (.cells #[.func (.func g) #[] caps] 190)).alloc (.cells #[.bool false] 4)).alloc (.cells #[.slice a zs.length cap] 137)=W0:=⟨_,rfl⟩
 rw[hW0] at bGv bRv bNv hB2 hsz⊢;clear hW0;refine wpIn_rangeFunc_ownH rfl (by omega) (gf:=185) (lb:= #[.pointer (some ⟨W.heap.size+1+1,0,none⟩)]) rfl trivial (enters_of Tryz.func185 (by kernel_rfl) rfl)
  (tyVals_stops Fence.wide (5-1) trivial rfl (by omega) (W.heap.size+1+1) W.heap.size _ zs HFEW.o W0 (by omega) (by omega) bNv.cell (HI.o.below hB2)) belowK_t (belowK_b (by omega)) (bS _ _) (fun _=>rfl)
  (fun pre A=>Boxed A W.heap.size 190 (.func (.func g) #[] caps)/\Boxed A (W.heap.size+1) 4 (.bool false)/\Below W.heap.size W A/\∀x∈pre,pr x=true)
  (fun c pre A=>c= .ret/\Boxed A (W.heap.size+1) 4 (.bool false)/\Below W.heap.size W A/\∃x∈pre,pr x=false)
  (fun s A B row hs hg hr=>⟨boxed_own W.heap.size 190 (fun(_:Unit)=>Value.func (.func g) #[] caps) () A B row hs.1 hg (fun r e=>(hr r e).2),boxed_own (W.heap.size+1) 4 (fun(_:Unit)=>Value.bool false) () A B row hs.2.1 hg (fun r e=>(hr r e).2),ownFrom_below (β:=Unit) (aH _) (by omega) () A B row hs.2.2.1 hg hr,hs.2.2.2⟩)
  (fun c s A B row hs hg hr=>⟨hs.1,boxed_own (W.heap.size+1) 4 (fun(_:Unit)=>Value.bool false) () A B row hs.2.1 hg (fun r e=>(hr r e).2),ownFrom_below (β:=Unit) (aH _) (by omega) () A B row hs.2.2.1 hg hr,hs.2.2.2⟩)
  ⟨bGv,bRv,hB2,fun x hx=>by cases hx⟩
  (fun x a' A=>a'={tmps:= #[.slice a zs.length cap,.func (.func g) #[] caps,undef,.pointer (some ⟨W.heap.size,0,none⟩),.pointer (some ⟨W.heap.size+1,0,none⟩),.int .i64 x,.slice a zs.length cap,.func (.func 185) #[] #[.pointer (some ⟨W.heap.size+1+1,0,none⟩)],.int .i64 x,undef,undef,undef,undef],defers:=[]})
  (fun x a' _ A B row hs hg hr=>hs)
  ?assign ?body ?done ?stop
 case assign=>
  rintro l pre x A K ⟨hg,hb,hB,hp⟩ hK
  gi_wp2
  exact hK _ _ (KeepsOthers.refl _ |>.from _) (bS _ A) ⟨hg,hb,hB,hp⟩ rfl
 case body=>
  rintro l pre x a' A hl ⟨r,hr⟩ ⟨hg,hb,hB,hp⟩ rfl _;have HX:=aB (HF.o x A hB);have HN1:Hid (pr x=true->∀i∈pre++[x],pr i=true):=fun h i hi=>by
   rcases iX.1 hi with hi|hi
   ·exact hp i hi
   ·obtain rfl:=gQ.1 hi;exact h
  have HN2:Hid (pr x=false->∃i∈pre++[x],pr i=false):=fun h=>⟨_,by simp,h⟩
  clear hp hr;have hlr:=hb.lt;have cg:=hg.cell;cases hc:pr x
  ·have HC:=aB hc;have HN:=aB (HN2.o hc);clear hc HN1 HN2
   gi_wp2_with fail
   refine⟨trivial,?_⟩;refine(CallsIn.inRound l (callsIn_wide.2 HX.o)).mono ?_;rintro e A2 ⟨rfl,hb2⟩;rw[HC.o];have hbx2:Boxed A2 (W.heap.size+1) 4 (.bool false):=(hb2.block _ hlr).trans hb;have c0:=hbx2.cell;have z0:=aJ (show A2.heap[W.heap.size+1]?=_ from hbx2) 0;have HH:=aB (bT hb2 (bT hB hbx2));clear hb2 hB hbx2 hb cg hg
   gi_wp2
   exact⟨((KeepsOthers.of_bl HH.o.1).trans (KeepsOthers.setCell _ _ _)).from _,rfl,HH.o.2.2.set _,(HH.o.2.1.trans (HH.o.1.mono HH.o.2.1.size)).setCell (p:=⟨W.heap.size+1,0,none⟩) (by show W.heap.size<=W.heap.size+1;omega) _,HN.o⟩
  ·have HC:=aB hc;have HN:=aB (HN1.o hc);clear hc HN1 HN2
   gi_wp2_with fail
   refine⟨trivial,?_⟩;refine(CallsIn.inRound l (callsIn_wide.2 HX.o)).mono ?_;rintro e A2 ⟨rfl,hb2⟩;rw[HC.o];have HH:=aB (bT hb2 (bT hB (bT (show Boxed A2 (W.heap.size+1) 4 (.bool false) from(hb2.block _ hlr).trans hb) (show Boxed A2 W.heap.size 190 (.func (.func g) #[] caps) from(hb2.block _ hg.lt).trans hg))));clear hb2 hB hb hg cg
   gi_wp2
   exact⟨(KeepsOthers.of_bl HH.o.1).from _,HH.o.1.mono HH.o.2.1.size,HH.o.2.2.2,HH.o.2.2.1,HH.o.2.1.trans (HH.o.1.mono HH.o.2.1.size),HN.o⟩
 case done=>
  rintro D ys A hD rfl ⟨hg,hb,hB,hp⟩ hK;have HC:=aB (show R=true from by
   rw[<-HR.o,jA];exact hp)
  have c0:=hb.cell;have z0:=aJ (show A.heap[W.heap.size+1]?=_ from hb) 0;have hDD:W.heap.size+2<=D:=(by omega);have HH:=aB (bT ((aM A ⟨W.heap.size+1,0,none⟩ (.bool true) D (by show D≠W.heap.size+1;omega)).trans hK) (bT hB (hb.set (.bool true))));clear hb hB hK hp hg
  gi_wp2
  exact sallT_leave hDD rfl rfl HH.o.1 (by rw[HC.o];exact HH.o.2.2) (HH.o.2.1.setCell (p:=⟨W.heap.size+1,0,none⟩) (by show W.heap.size<=W.heap.size+1;omega) _)
 case stop=>
  rintro D c pre A hD hpre ⟨rfl,hb,hB,hp⟩ hK;have HC:=aB (show R=false from by
   obtain⟨x,hx,hf⟩:=hp;obtain⟨r,hr⟩:=hpre;have hm:x∈zs:=(by rw[<-hr];exact List.mem_append_left _ hx);rw[<-HR.o];cases hall:zs.all pr
   ·rfl
   ·rw[jA] at hall;rw[hall x hm] at hf;cases hf)
  have HH:=aB (bT hK (bT hB hb));clear hb hB hK hp
  gi_wp2
  exact sallT_leave (by omega) rfl rfl HH.o.1 (by rw[HC.o];exact HH.o.2.2) HH.o.2.1
end
end Go.Proofs.YtkimpcmkminffaaGreatDoor
