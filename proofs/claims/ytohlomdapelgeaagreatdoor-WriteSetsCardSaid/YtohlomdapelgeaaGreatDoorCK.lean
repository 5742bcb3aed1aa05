/- Texts RI ZP QP YG ZF ZN ZI ZJ ZK ZM ZA RG RU. -/
import Derived.Test.YtohlomdapelgeaaGreatDoorCJ
import Derived.Test.YtohlomdapelgeaaGreatDoorCF
import Derived.Test.YtohlomdapelgeaaGreatDoorCC
import Derived.Lib.MinMax
import Derived.Test.YtohlomdapelgeaaGreatDoorCE
import Derived.Test.YtohlomdapelgeaaGreatDoorCI
import Derived.Test.YtohlomdapelgeaaGreatDoorCG
namespace Go.Proofs.YtohlomdapelgeaaGreatDoor
open _root_.Go.Proofs.Tryz
open Go.RowKit
open _root_.And renaming intro->bT
open _root_.Array renaming getElem?_eq_some_iff->aC
open _root_.Bool renaming and_eq_true->aQ,false_and->pK,true_and->rC
open _root_.Go.Lib renaming cell_of_heap->aG,frozen_of_heap->aJ,hid->aB
open _root_.List renaming all_eq_true->jA,drop_eq_getElem_cons->aZ,drop_length->dO,getElem_mem->dS
open _root_.Nat renaming le_refl->aH,zero_le->dL
open _root_.Or renaming inr->nA
open _root_.Go.World renaming setCell->dX
set_option maxRecDepth 100000
set_option maxHeartbeats 16000000
section
section
variable {P:Program}
theorem results_cells{fn:Func}{p:Tmp}{ty:TypeId}{q:Tmp}{u:TypeId}(h:fn.results= #[.cell p ty,.cell q u])(tmps:Array Value)(w:World)(b a:Addr)(v1 v2:Value)
  (hp:tmps.getD p undef= .pointer (some b)) (hr1:(loadVar ty b).run P w= .ok v1 w)
  (hq:tmps.getD q undef= .pointer (some a)) (hr2:(loadVar u a).run P w= .ok v2 w):(results fn tmps).run P w= .ok (.tuple #[v1,v2]) w:=by
 have hp':tmps[p]?.getD undef= .pointer (some b):=(by simpa using hp);have hq':tmps[q]?.getD undef= .pointer (some a):=(by simpa using hq);simp[results,h,hp',hq',asAddr,hr1,hr2]
end
theorem qItems1_any{A:World}{bs g cap k k0 X Sb Wb:Nat}{ts:List Tok}{v:Value}(hs:iV A bs g cap ts k)(hk:k0<ts.length)(hX:A.heap[X]?=some (.cells #[v] 29 (0,0)))(hS:A.heap[Sb]?=some (.cells #[.pointer (some ⟨bs,0,none⟩)] 66 (0,0)))(hW:A.heap[Wb]?=some (.cells #[.int .i64 (k0:Int)] 3 (0,0)))
  (h1:X≠Sb) (h2:X≠Wb) (h3:bs≠X) (h4:g≠X):
  eg 201 #[.pointer (some ⟨X,0,none⟩),.pointer (some ⟨Sb,0,none⟩),.pointer (some ⟨Wb,0,none⟩)] A fun e w'=>e= .returned (.tuple #[])/\(A.setCell ⟨X,0,none⟩ d2i).grownBy w' (some bs)/\iV w' bs g cap ts k0:=by
 have HSB:=aB (hs.set1 h3 h4 0 d2i);have HK:=aB hk;have a0:=cK hX;have z0:A.frozen? ⟨X,0,none⟩=false:=aJ hX 0;have c1:=cK ((aM A ⟨X,0,none⟩ d2i Sb (Ne.symm h1)).trans hS);have c2:=cK ((aM A ⟨X,0,none⟩ d2i Wb (Ne.symm h2)).trans hW);clear hs hX hk hS hW;go_enter func201,ntmps201;go_wp2_with fail;refine(b4r HSB.o (k0:Int)).mono ?_;rintro e w' ⟨hg,(⟨-,-,rfl,hs⟩|⟨hn,-,-⟩)⟩
 ·rw[Int.toNat_natCast] at hs;go_wp2;go_end0;exact⟨rfl,hg,hs⟩
 ·exact absurd ⟨by omega,by have:=HK.o;omega⟩ hn
theorem enters_qItems1(args:Array Value)(w:World):(callFunc 201 args).run prog w= .ok (.enter 201 args) w:=by
 simp[go_sem]
def QIPost(bs g cap:Nat)(ts:List Tok)(k:Nat)(W:World)(e:Ending)(w':World):Prop:=
 W.grownBy w' (some bs)/\((∃k' l v,readItems ts k= .good k' l/\iV w' bs g cap ts k'/\d2p fIt (fun b=>W.heap.size<=b) w' v l/\e= .returned (.tuple #[v,.int .i64 0]))\/
  (∃c,(c=260\/c=261\/c=270)/\readItems ts k= .bad c/\iV w' bs g cap ts k/\e= .returned (.tuple #[d2i,.int .i64 c])))
theorem FrD.setx{W A:World}{bs k:Nat}{T:TypeId}{u:Value}(h:FrD W A bs k T #[u])(v:Value):FrD W (A.setCell ⟨W.heap.size+1,0,none⟩ v) bs k T #[v]:=
 ⟨dP h.grown 0 aE _,(aM _ _ _ _ ee).trans h.s,lN h.x 0 v,(aM _ _ _ _ eV).trans h.e,(aM _ _ _ _ (by show W.heap.size+3≠W.heap.size+1;omega)).trans h.q⟩
theorem FrD.bl{W A B:World}{bs k:Nat}{T:TypeId}{cs:Array Value}(h:FrD W A bs k T cs)(hb:bs<W.heap.size)(hB:Bl A B):FrD W B bs k T cs:=h.next hb (gI hB _)
theorem qItems_any{W:World}{bs g cap k:Nat}{ts:List Tok}(h:iV W bs g cap ts k)(hT:lC ts):eg 138 #[.pointer (some ⟨bs,0,none⟩)] W (QIPost bs g cap ts k W):=by
 have H:=aB h;have HT:=aB hT;have hbl:=h.lt';have hgl:=h.gl;have hmf:∀(fn:Fn) (first cap:Array Value) (w:World),(Instr.makeFunc fn first cap).run prog w= .ok (.func fn first cap) w:=fun _ _ _ _=>rfl;have HF0:=aB (FrD.start W bs k 29 #[d2i]);have HB0:=aB (((Bl.refl W).alloc (.cells #[.pointer (some ⟨bs,0,none⟩)] 66)).alloc (.cells #[d2i] 29) |>.alloc (.cells #[.int .i64 0] 47));clear h hT
 go_enter_defers func138,ntmps138
 go_wp2_with fail
 (with_reducible refine(b9a (H.o.bl HB0.o)).mono ?_)
 rintro e w1 ⟨rfl,rfl⟩;go_wp2_with fail;refine(e1v (((H.o.bl HB0.o).bl ((Bl.refl _).alloc _)).bl ((Bl.refl _).alloc _)) HT.o).mono ?_;intro e w5 hp;obtain⟨hg5,k5,hs5,hcase⟩:=hp;have HF5:=aB ((HF0.o.bl hbl ((Bl.refl _).alloc _)).next hbl hg5);have HS5:=aB hs5;have hz5:=HF5.o.size;rcases hcase with⟨l,v,hr5,hrow,rfl⟩|⟨c,hc,hr5,rfl⟩
 rotate_left
 ·have HR5:=aB (show readItems ts k= .bad c from by unfold readItems d7m;rw[hr5];rfl);have HC:=aB hc;clear hg5 hs5 hr5 hc;go_wp2_with fail;refine leaves_cons (f:=200) (args:= #[.pointer (some ⟨W.heap.size+2,0,none⟩),.func (.func 201) #[] #[.pointer (some ⟨W.heap.size+1,0,none⟩),.pointer (some ⟨W.heap.size,0,none⟩),.pointer (some ⟨W.heap.size+3,0,none⟩)]]) aa an ?_;have hclear:=qItems1_any (A:=(w5).setCell ⟨W.heap.size+2,0,none⟩ (.int .i64 c)) (X:=W.heap.size+1) (Sb:=W.heap.size) (Wb:=W.heap.size+3) (v:=d2i) (HS5.o.set1 aE aE _ _) H.o.lt ((aM _ ⟨W.heap.size+2,0,none⟩ _ _ be).trans HF5.o.x) ((aM _ ⟨W.heap.size+2,0,none⟩ _ _ da).trans HF5.o.s) ((aM _ ⟨W.heap.size+2,0,none⟩ _ _ dv).trans HF5.o.q) aE aE aE aE;refine(d8s ⟨W.heap.size+2,0,none⟩ 0 c 201 #[] #[.pointer (some ⟨W.heap.size+1,0,none⟩),.pointer (some ⟨W.heap.size,0,none⟩),.pointer (some ⟨W.heap.size+3,0,none⟩)] #[.pointer (some ⟨W.heap.size+1,0,none⟩),.pointer (some ⟨W.heap.size,0,none⟩),.pointer (some ⟨W.heap.size+3,0,none⟩)] aa (w5) _ (cK HF5.o.e) (aJ HF5.o.e 0) enters_qItems1 hclear).mono ?_;rintro e u' w6 ⟨rfl,rfl,hg6,hs6⟩;have hx6:=(hg6.block (W.heap.size+1) (by simp[dX];have:=HF5.o.size;omega) (fun e=>by injection e with e;omega)).trans (lN ((aM _ ⟨W.heap.size+2,0,none⟩ _ _ be).trans HF5.o.x) 0 d2i);have he6:=(hg6.block (W.heap.size+2) (by simp[dX];have:=HF5.o.size;omega) (fun e=>by injection e with e;omega)).trans ((aM _ ⟨W.heap.size+1,0,none⟩ _ _ eV).trans (lN HF5.o.e 0 (.int .i64 c)));have r0:w6.cell? ⟨W.heap.size+2,0,none⟩=some (.int .i64 c):=(by rw[aG he6];rfl);have r1:w6.cell? ⟨W.heap.size+1,0,none⟩=some d2i:=(by rw[aG hx6];rfl);refine⟨.tuple #[d2i,.int .i64 c],?_,dA (dP (dP HF5.o.grown 0 aE _) 0 aE _) hg6,.inr ⟨c,HC.o,HR5.o,hs6,rfl⟩⟩;exact results_cells rfl _ _ ⟨W.heap.size+1,0,none⟩ ⟨W.heap.size+2,0,none⟩ _ _ rfl (by simp[go_sem,r1]) rfl (by simp[go_sem,r0])
 obtain⟨ai,ci,rfl,-⟩:=hrow.shape;have HR5:=aB hr5;have HP5:=aB (show d2p fIt (fun b=>W.heap.size+4<=b) w5 (.slice ai l.length ci) l from hrow.of fun b _ (hb:_<=b)=>by simp at hb;omega);clear hg5 hs5 hr5 hrow;have c0:=cK HF5.o.x;have z0:w5.frozen? ⟨W.heap.size+1,0,none⟩=false:=aJ HF5.o.x 0;have HF6:=aB (HF5.o.setx (.slice ai l.length ci));have HS6:=aB (HS5.o.set1 (b:=W.heap.size+1) aE aE 0 (.slice ai l.length ci));have c6:=cK HF6.o.x;have z6:(w5.setCell ⟨W.heap.size+1,0,none⟩ (.slice ai l.length ci)).frozen? ⟨W.heap.size+1,0,none⟩=false:=aJ HF6.o.x 0;go_wp2_with fail;by_cases hl:l.length<=32;rotate_left
 ·have HR6:=aB (show readItems ts k= .bad 270 from by unfold readItems d7m;rw[HR5.o];show(if _ then _ else _)=_;rw[if_pos aE]);rw[show decide ((l.length:Int)<=32)=false from decide_eq_false aE];refine(d3t _ _).mono ?_;rintro e w7 ⟨rfl,rfl⟩;go_wp2_with fail;refine leaves_cons (f:=200) (args:= #[.pointer (some ⟨W.heap.size+2,0,none⟩),.func (.func 201) #[] #[.pointer (some ⟨W.heap.size+1,0,none⟩),.pointer (some ⟨W.heap.size,0,none⟩),.pointer (some ⟨W.heap.size+3,0,none⟩)]]) aa an ?_;have hclear:=qItems1_any (A:=(w5.setCell ⟨W.heap.size+1,0,none⟩ (.slice ai l.length ci)).setCell ⟨W.heap.size+2,0,none⟩ (.int .i64 270)) (X:=W.heap.size+1) (Sb:=W.heap.size) (Wb:=W.heap.size+3) (v:=(.slice ai l.length ci)) (HS6.o.set1 aE aE _ _) H.o.lt ((aM _ ⟨W.heap.size+2,0,none⟩ _ _ be).trans HF6.o.x) ((aM _ ⟨W.heap.size+2,0,none⟩ _ _ da).trans HF6.o.s) ((aM _ ⟨W.heap.size+2,0,none⟩ _ _ dv).trans HF6.o.q) aE aE aE aE;refine(d8s ⟨W.heap.size+2,0,none⟩ 0 270 201 #[] #[.pointer (some ⟨W.heap.size+1,0,none⟩),.pointer (some ⟨W.heap.size,0,none⟩),.pointer (some ⟨W.heap.size+3,0,none⟩)] #[.pointer (some ⟨W.heap.size+1,0,none⟩),.pointer (some ⟨W.heap.size,0,none⟩),.pointer (some ⟨W.heap.size+3,0,none⟩)] aa (w5.setCell ⟨W.heap.size+1,0,none⟩ (.slice ai l.length ci)) _ (cK HF6.o.e) (aJ HF6.o.e 0) enters_qItems1 hclear).mono ?_;rintro e u' w6 ⟨rfl,rfl,hg6,hs6⟩;have hx6:=(hg6.block (W.heap.size+1) (by simp[dX];have:=HF6.o.size;omega) (fun e=>by injection e with e;omega)).trans (lN ((aM _ ⟨W.heap.size+2,0,none⟩ _ _ be).trans HF6.o.x) 0 d2i);have he6:=(hg6.block (W.heap.size+2) (by simp[dX];have:=HF6.o.size;omega) (fun e=>by injection e with e;omega)).trans ((aM _ ⟨W.heap.size+1,0,none⟩ _ _ eV).trans (lN HF6.o.e 0 (.int .i64 270)));have r0:w6.cell? ⟨W.heap.size+2,0,none⟩=some (.int .i64 270):=(by rw[aG he6];rfl);have r1:w6.cell? ⟨W.heap.size+1,0,none⟩=some d2i:=(by rw[aG hx6];rfl);refine⟨.tuple #[d2i,.int .i64 270],?_,dA (dP (dP HF6.o.grown 0 aE _) 0 aE _) hg6,.inr ⟨270,(nA (nA rfl)),HR6.o,hs6,rfl⟩⟩;exact results_cells rfl _ _ ⟨W.heap.size+1,0,none⟩ ⟨W.heap.size+2,0,none⟩ _ _ rfl (by simp[go_sem,r1]) rfl (by simp[go_sem,r0])
 rw[show decide ((l.length:Int)<=32)=true from decide_eq_true aE];refine(d5e _ _).mono ?_;rintro e w7 ⟨rfl,rfl⟩;have HR6:=aB (show readItems ts k= .good k5 l from by unfold readItems d7m;rw[HR5.o];show(if _ then _ else _)=_;rw[if_neg aE]);have HP6:Hid (d2p fIt (fun b=>W.heap.size+4<=b) (w5.setCell ⟨W.heap.size+1,0,none⟩ (.slice ai l.length ci)) (.slice ai l.length ci) l):=HP5.o.keep (by simp[dX]) (fun _ h=>h) fun i (hi:W.heap.size+4<=i) _=>aM _ _ _ _ (by show i≠W.heap.size+1;omega);clear c0 z0 HP5 HS5 HF5 hz5 hl;generalize w5.setCell ⟨W.heap.size+1,0,none⟩ (.slice ai l.length ci)=w6 at *;have hz6:=HF6.o.size;have HF7:=aB (HF6.o.setx (.slice ai l.length ci));have HS7:=aB (HS6.o.set1 (b:=W.heap.size+1) aE aE 0 (.slice ai l.length ci));have HP7:Hid (d2p fIt (fun b=>W.heap.size+4<=b) (w6.setCell ⟨W.heap.size+1,0,none⟩ (.slice ai l.length ci)) (.slice ai l.length ci) l):=HP6.o.keep (by simp[dX]) (fun _ h=>h) fun i (hi:W.heap.size+4<=i) _=>aM _ _ _ _ (by show i≠W.heap.size+1;omega);have c8:=cK HF7.o.e;have z8:(w6.setCell ⟨W.heap.size+1,0,none⟩ (.slice ai l.length ci)).frozen? ⟨W.heap.size+2,0,none⟩=false:=aJ HF7.o.e 0;go_wp2_with fail;refine leaves_cons (f:=200) (args:= #[.pointer (some ⟨W.heap.size+2,0,none⟩),.func (.func 201) #[] #[.pointer (some ⟨W.heap.size+1,0,none⟩),.pointer (some ⟨W.heap.size,0,none⟩),.pointer (some ⟨W.heap.size+3,0,none⟩)]]) aa an ?_;refine(d9i _ _ _).mono ?_;rintro e u' w'' ⟨rfl,rfl,rfl⟩;clear c6 z6 c8 z8;have hz7:=HF7.o.size;generalize w6.setCell ⟨W.heap.size+1,0,none⟩ (.slice ai l.length ci)=w7 at *;have r1:=cK (x:= .slice ai l.length ci) ((aM w7 ⟨W.heap.size+2,0,none⟩ (.int .i64 0) (W.heap.size+1) be).trans HF7.o.x);have r0:=cK (x:= .int .i64 0) (lN HF7.o.e 0 (.int .i64 0));refine⟨.tuple #[.slice ai l.length ci,.int .i64 0],?_,dP HF7.o.grown 0 aE _,.inl ⟨k5,l,_,HR6.o,HS7.o.set1 aE aE _ _,?_,rfl⟩⟩
 ·exact results_cells rfl _ _ ⟨W.heap.size+1,0,none⟩ ⟨W.heap.size+2,0,none⟩ _ _ rfl (by simp[go_sem,r1]) rfl (by simp[go_sem,r0])
 ·exact HP7.o.keep (by simp[dX]) (fun b (hb:W.heap.size+4<=b)=>by show W.heap.size<=b;omega) fun i (hi:W.heap.size+4<=i) _=>aM _ _ _ _ (by show i≠W.heap.size+2;omega)
end
section
def c7h(lim:Nat)(v:Int×Int×List UInt8)(t n:List UInt8):Bool:=decide (lim<v.2.2.length)||decide (100<t.length)||decide (100<n.length)
mutual
def partsV(lim:Nat):Nat->Ex->Nat
 |most,.mk _ v t n _ args=>if c7h lim v t n then most+1 else pVs lim most 1 args
def pVs(lim:Nat):Nat->Nat->List Ex->Nat
 |_,n,[]=>n
 |most,n,y::l=>if n<=most then pVs lim most (n+partsV lim (most-n) y) l else n
end
mutual
theorem c9o(lim:Nat):∀(most:Nat) (x:Ex),1<=partsV lim most x/\partsV lim most x<=most+1
 |most,.mk _ v t n _ args=>by
  simp only[partsV];split
  ·omega
  ·exact c8p lim most 1 args aE aE
theorem c8p(lim:Nat):∀(most n:Nat) (l:List Ex),1<=n->n<=most+1->1<=pVs lim most n l/\pVs lim most n l<=most+1
 |most,n,[],h1,h2=>by simp only[pVs];omega
 |most,n,y::l,h1,h2=>by
  simp only[pVs];split
  ·have:=c9o lim (most-n) y;exact c8p lim most _ l aE aE
  ·omega
end
inductive c0t (lim:Nat):Ex->Prop where
 |mk (k:Int) (v:Int×Int×List UInt8) (t n:List UInt8) (o:Int) (args:List Ex) (h:c7h lim v t n=false) (ha:∀y,y∈args->c0t lim y):c0t lim (.mk k v t n o args)
theorem c7s{lim most n:Nat}(h:most<n)(l:List Ex):pVs lim most n l=n:=by
 cases l with
 |nil=>simp only[pVs]
 |cons y l=>simp only[pVs];rw[if_neg aE]
theorem c7t{lim most n:Nat}{l:List Ex}{j:Nat}(hj:j<l.length)(hn:n<=most):pVs lim most n (l.drop j)=pVs lim most (n+partsV lim (most-n) l[j]) (l.drop (j+1)):=by
 rw[aZ hj];simp only[pVs];rw[if_pos hn]
theorem c0t.lens{lim:Nat}(_:lim<=1100){x:Ex}(h:c0t lim x):Lens x:=by
 induction h with
 |mk k v t n o args h _ ih=>
  simp only[c7h,Bool.or_eq_false_iff,decide_eq_false_iff_not] at h;exact .mk k v t n o args aE aE ih
theorem c0t.mono{a b:Nat}(hab:a<=b){x:Ex}(h:c0t a x):c0t b x:=by
 induction h with
 |mk k v t n o args h _ ih=>
  refine .mk k v t n o args ?_ ih;simp only[c7h,Bool.or_eq_false_iff,decide_eq_false_iff_not] at h⊢;omega
end
section
end
section
theorem d2k.cell0{W:World}{b o:Nat}{cs:List Value}{v:Value}(h:d2k W b o cs)(hv:cs[0]?=some v):W.cell? ⟨b,o,none⟩=some v:=h 0 v hv
theorem d2t.slices{p:Nat->Prop}{W:World}{q:Qu}{si sj sw sg sh so:Value}(h:d2t p W q si sj sw sg sh so):∃ai ci aj cj aw cw ag cg ah ch ao co,si= .slice ai q.items.length ci/\sj= .slice aj q.joins.length cj/\sw= .slice aw q.wher.args.length cw/\sg= .slice ag q.group.length cg/\sh= .slice ah q.having.args.length ch/\so= .slice ao q.orders.length co:=by
 obtain⟨ai,ci,e1,-⟩:=h.items.shape;obtain⟨aj,cj,e2,-⟩:=h.joins.shape;obtain⟨aw,cw,e3⟩:=h.wher.shape;obtain⟨ag,cg,e4⟩:=h.group.shape;obtain⟨ah,ch,e5⟩:=h.having.shape;obtain⟨ao,co,e6,-⟩:=h.orders.shape;exact⟨ai,ci,aj,cj,aw,cw,ag,cg,ah,ch,ao,co,e1,e2,e3,e4,e5,e6⟩
theorem d6s{w:World}{b:Nat}{q:Qu}{si sj sw sg sh so:Value}{T:TypeId}(h:w.heap[b]?=some (.cells (quC q si sj sw sg sh so).toArray T (0,0))):
  w.cell? ⟨b,0,none⟩=some (.bool q.distinct)/\w.cell? ⟨b,1,none⟩=some (si)/\w.cell? ⟨b,2,none⟩=some (S q.frm.t)/\w.cell? ⟨b,3,none⟩=some (S q.frm.al)/\w.cell? ⟨b,4,none⟩=some (sj)/\w.cell? ⟨b,5,none⟩=some (.int .i64 q.wher.k)/\w.cell? ⟨b,6,none⟩=some (.int .i64 q.wher.v.1)/\w.cell? ⟨b,7,none⟩=some (.int .i64 q.wher.v.2.1)/\w.cell? ⟨b,8,none⟩=some (S q.wher.v.2.2)/\w.cell? ⟨b,9,none⟩=some (S q.wher.t)/\w.cell? ⟨b,10,none⟩=some (S q.wher.n)/\w.cell? ⟨b,11,none⟩=some (.int .i64 q.wher.o)/\w.cell? ⟨b,12,none⟩=some (sw)/\w.cell? ⟨b,13,none⟩=some (sg)/\w.cell? ⟨b,14,none⟩=some (.int .i64 q.having.k)/\w.cell? ⟨b,15,none⟩=some (.int .i64 q.having.v.1)/\w.cell? ⟨b,16,none⟩=some (.int .i64 q.having.v.2.1)/\w.cell? ⟨b,17,none⟩=some (S q.having.v.2.2)/\w.cell? ⟨b,18,none⟩=some (S q.having.t)/\w.cell? ⟨b,19,none⟩=some (S q.having.n)/\w.cell? ⟨b,20,none⟩=some (.int .i64 q.having.o)/\w.cell? ⟨b,21,none⟩=some (sh)/\w.cell? ⟨b,22,none⟩=some (so)/\w.cell? ⟨b,23,none⟩=some (.int .i64 q.limit):=
 ⟨(aG h 0).trans rfl,(aG h 1).trans rfl,(aG h 2).trans rfl,(aG h 3).trans rfl,(aG h 4).trans rfl,(aG h 5).trans rfl,(aG h 6).trans rfl,(aG h 7).trans rfl,(aG h 8).trans rfl,(aG h 9).trans rfl,(aG h 10).trans rfl,(aG h 11).trans rfl,(aG h 12).trans rfl,(aG h 13).trans rfl,(aG h 14).trans rfl,(aG h 15).trans rfl,(aG h 16).trans rfl,(aG h 17).trans rfl,(aG h 18).trans rfl,(aG h 19).trans rfl,(aG h 20).trans rfl,(aG h 21).trans rfl,(aG h 22).trans rfl,(aG h 23).trans rfl⟩
end
section
end
section
end
section
theorem keep1{A B:World}{b:Nat}{o:Obj}(h:A.heap[b]?=some o)(hb:Bl A B):B.heap[b]?=some o:=(hb.block _ (aC.1 h).1).trans h
end
section
theorem samesBy_ne{α:Type}{f:α->α->Bool}:∀{l m:List α},l.length≠m.length->samesBy f l m=false
 |[],[],h=>absurd rfl h
 |[],_::_,_=>rfl
 |_::_,[],_=>rfl
 |x::l,y::m,h=>by simp only[samesBy,samesBy_ne (l:=l) (m:=m) (fun e=>h (by simp[e])),Bool.and_false]
theorem samesBy_drop{α:Type}{f:α->α->Bool}{l m:List α}{j:Nat}(h:j<l.length)(h2:j<m.length):samesBy f (l.drop j) (m.drop j)=(f l[j] m[j]&&samesBy f (l.drop (j+1)) (m.drop (j+1))):=by
 rw[aZ h,aZ h2];rfl
theorem equalI_any{W:World}{a a2:Option Addr}{cap cap2:Nat}{l m:List It}{same:It->It->Bool}{q r:Nat->Prop}{fn:FuncId}(hen:∀(args:Array Value) (w:World),(callFunc fn args).run prog w= .ok (.enter fn args) w)(hlen:l.length<=1000000)(hR:d2p fIt q W (.slice a l.length cap) l)(hR2:d2p fIt r W (.slice a2 m.length cap2) m)
  (hf:∀y∈l,∀(z:It) (W':World) (s s2:Value),Bl W W'->bG q W' s (Form.ex fIt y).args->bG r W' s2 (Form.ex fIt z).args->eg fn #[.agg (fIt.cells y s).toArray,.agg (fIt.cells z s2).toArray] W' fun e w'=>e= .returned (.bool (same y z))/\Bl W' w'):
  eg 42 #[.slice a l.length cap,.slice a2 m.length cap2,.func (.func fn) #[] #[]] W fun e w'=>e= .returned (.bool (samesBy same l m))/\Bl W w':=by
 by_cases hl:l.length=m.length
 case neg=>
  rw[samesBy_ne hl];have hl':¬(l.length:Int)=(m.length:Int):=aE;have hb:((l.length:Int)==(m.length:Int))=false:=av;have hb':((l.length:Int) != (m.length:Int))=true:=av;clear hl hl' hR hR2 hf hlen;go_enter func42,ntmps42;go_wp2;go_ret;exact⟨rfl,Bl.refl W⟩
 obtain⟨a',cap',e,hc⟩:=hR.shape;obtain⟨rfl,rfl⟩:a=a'/\cap=cap':=ba;obtain⟨a3,cap3,e3,hc2⟩:=hR2.shape;obtain⟨rfl,rfl⟩:a2=a3/\cap2=cap3:=cr;have HC:=aB hc;have HC2:=aB hc2;have HF:=aB hf;have HLE:=aB hl;rw[<-hl];obtain⟨R,HRR⟩:∃R,Hid (samesBy same l m=R):=⟨_,rfl⟩
 rw[HRR.o];clear hR hR2 hc hc2 hf e e3 hl;go_enter func42,ntmps42;go_wp2_with fail;go_loopw [17] (fun i wr=>∃j:Nat,j<=l.length/\i= .int .i64 (j:Int)/\Hid (R=samesBy same (l.drop j) (m.drop j))/\Hid (Bl W wr)) (fun i _=>l.length-(intOf i).toNat)
 case atStart=>exact⟨0,dL _,rfl,HRR.o.symm,Bl.refl W⟩
 case round=>
  obtain⟨j,hj,rfl,HD,HB⟩:=hrel;by_cases hlt:j<l.length
  ·have hlt2:j<m.length:=by have:=HLE.o;omega
   obtain⟨b,off,s,rfl,-,hbl,hcs,hr⟩:=HC.o j hlt;obtain⟨b2,off2,s2,rfl,-,hbl2,hcs2,hr2⟩:=HC2.o j hlt2;have HDj:=aB (HD.o.trans (samesBy_drop hlt hlt2));have HM:=aB (dS hlt);have HR:=aB (bT (hr.bl HB.o) (hr2.bl HB.o))
   replace hcs:=hcs.keep (HB.o.block b hbl)
   replace hcs2:=hcs2.keep (HB.o.block b2 hbl2)
   have hz:=HB.o.size;have hbw:b2<wr.heap.size:=aE;have hlt':(j:Int)<(l.length:Int):=aE;obtain⟨asl,cs,rfl⟩:=hr.shape;obtain⟨asl2,cs2,rfl⟩:=hr2.shape;clear hr hr2 HD;generalize l[j]=y at *;generalize m[j]=z at *;obtain⟨st,tt,⟨yk,⟨y1,y2,y3⟩,yt,yn,yo,ya⟩,al⟩:=y;obtain⟨st2,tt2,⟨zk,⟨z1,z2,z3⟩,zt,zn,zo,za⟩,al2⟩:=z
   replace hcs:d2k wr b (off+j * 11) [.bool st,S tt,.int .i64 yk,.int .i64 y1,.int .i64 y2,S y3,S yt,S yn,.int .i64 yo,.slice asl ya.length cs,S al]:=hcs
   replace hcs2:d2k wr b2 (off2+j * 11) [.bool st2,S tt2,.int .i64 zk,.int .i64 z1,.int .i64 z2,S z3,S zt,S zn,.int .i64 zo,.slice asl2 za.length cs2,S al2]:=hcs2
   have e0:=d2k.cell0 hcs rfl;have e1:=hcs 1 _ rfl;have e2:=hcs 2 _ rfl;have e3:=hcs 3 _ rfl;have e4:=hcs 4 _ rfl;have e5:=hcs 5 _ rfl;have e6:=hcs 6 _ rfl;have e7:=hcs 7 _ rfl;have e8:=hcs 8 _ rfl;have e9:=hcs 9 _ rfl;have e10:=hcs 10 _ rfl;have i0:=d2k.cell0 hcs2 rfl;have i1:=hcs2 1 _ rfl;have i2:=hcs2 2 _ rfl;have i3:=hcs2 3 _ rfl;have i4:=hcs2 4 _ rfl;have i5:=hcs2 5 _ rfl;have i6:=hcs2 6 _ rfl;have i7:=hcs2 7 _ rfl;have i8:=hcs2 8 _ rfl;have i9:=hcs2 9 _ rfl;have i10:=hcs2 10 _ rfl;clear hcs hcs2;go_wp2_with fail;refine(HF.o (⟨st,tt,(.mk yk (y1,y2,y3) yt yn yo ya),al⟩:It) HM.o (⟨st2,tt2,(.mk zk (z1,z2,z3) zt zn zo za),al2⟩:It) _ (.slice asl ya.length cs) (.slice asl2 za.length cs2) (HB.o.call (((Bl.refl _).alloc _).alloc _)) (HR.o.1.bl (((Bl.refl _).alloc _).alloc _)) (HR.o.2.bl (((Bl.refl _).alloc _).alloc _))).mono ?_;rintro e w1 ⟨rfl,hb1⟩;have HB1:=aB ((HB.o.call (((Bl.refl _).alloc _).alloc _)).call hb1);clear hb1 e0 e1 e2 e3 e4 e5 e6 e7 e8 e9 e10 i0 i1 i2 i3 i4 i5 i6 i7 i8 i9 i10;cases hs:same (⟨st,tt,(.mk yk (y1,y2,y3) yt yn yo ya),al⟩:It) (⟨st2,tt2,(.mk zk (z1,z2,z3) zt zn zo za),al2⟩:It)
   ·have HN:=aB (show R=false from by rw[HDj.o,hs,pK]);clear hs;go_wp2;go_ret;exact⟨by rw[HN.o];rfl,HB1.o⟩
   ·have HN:=aB (show R=samesBy same (l.drop (j+1)) (m.drop (j+1)) from by rw[HDj.o,hs,rC]);clear hs;go_wp2;go_roundw
    case rel=>exact⟨j+1,by omega,by go_num,HN.o,HB1.o⟩
    case measure=>simp[intOf];omega
  ·obtain rfl:j=l.length:=by omega
   have HN:=aB (show R=true from by rw[HD.o,dO,HLE.o,dO];rfl);go_wp2;go_ret;exact⟨by rw[HN.o];rfl,HB.o⟩
theorem equalJ_any{W:World}{a a2:Option Addr}{cap cap2:Nat}{l m:List Jo}{same:Jo->Jo->Bool}{q r:Nat->Prop}{fn:FuncId}(hen:∀(args:Array Value) (w:World),(callFunc fn args).run prog w= .ok (.enter fn args) w)(hlen:l.length<=1000000)(hR:d2p fJo q W (.slice a l.length cap) l)(hR2:d2p fJo r W (.slice a2 m.length cap2) m)
  (hf:∀y∈l,∀(z:Jo) (W':World) (s s2:Value),Bl W W'->bG q W' s (Form.ex fJo y).args->bG r W' s2 (Form.ex fJo z).args->eg fn #[.agg (fJo.cells y s).toArray,.agg (fJo.cells z s2).toArray] W' fun e w'=>e= .returned (.bool (same y z))/\Bl W' w'):
  eg 83 #[.slice a l.length cap,.slice a2 m.length cap2,.func (.func fn) #[] #[]] W fun e w'=>e= .returned (.bool (samesBy same l m))/\Bl W w':=by
 by_cases hl:l.length=m.length
 case neg=>
  rw[samesBy_ne hl];have hl':¬(l.length:Int)=(m.length:Int):=aE;have hb:((l.length:Int)==(m.length:Int))=false:=av;have hb':((l.length:Int) != (m.length:Int))=true:=av;clear hl hl' hR hR2 hf hlen;go_enter func83,ntmps83;go_wp2;go_ret;exact⟨rfl,Bl.refl W⟩
 obtain⟨a',cap',e,hc⟩:=hR.shape;obtain⟨rfl,rfl⟩:a=a'/\cap=cap':=ba;obtain⟨a3,cap3,e3,hc2⟩:=hR2.shape;obtain⟨rfl,rfl⟩:a2=a3/\cap2=cap3:=cr;have HC:=aB hc;have HC2:=aB hc2;have HF:=aB hf;have HLE:=aB hl;rw[<-hl];obtain⟨R,HRR⟩:∃R,Hid (samesBy same l m=R):=⟨_,rfl⟩
 rw[HRR.o];clear hR hR2 hc hc2 hf e e3 hl;go_enter func83,ntmps83;go_wp2_with fail;go_loopw [17] (fun i wr=>∃j:Nat,j<=l.length/\i= .int .i64 (j:Int)/\Hid (R=samesBy same (l.drop j) (m.drop j))/\Hid (Bl W wr)) (fun i _=>l.length-(intOf i).toNat)
 case atStart=>exact⟨0,dL _,rfl,HRR.o.symm,Bl.refl W⟩
 case round=>
  obtain⟨j,hj,rfl,HD,HB⟩:=hrel;by_cases hlt:j<l.length
  ·have hlt2:j<m.length:=by have:=HLE.o;omega
   obtain⟨b,off,s,rfl,-,hbl,hcs,hr⟩:=HC.o j hlt;obtain⟨b2,off2,s2,rfl,-,hbl2,hcs2,hr2⟩:=HC2.o j hlt2;have HDj:=aB (HD.o.trans (samesBy_drop hlt hlt2));have HM:=aB (dS hlt);have HR:=aB (bT (hr.bl HB.o) (hr2.bl HB.o))
   replace hcs:=hcs.keep (HB.o.block b hbl)
   replace hcs2:=hcs2.keep (HB.o.block b2 hbl2)
   have hz:=HB.o.size;have hbw:b2<wr.heap.size:=aE;have hlt':(j:Int)<(l.length:Int):=aE;obtain⟨asl,cs,rfl⟩:=hr.shape;obtain⟨asl2,cs2,rfl⟩:=hr2.shape;clear hr hr2 HD;generalize l[j]=y at *;generalize m[j]=z at *;obtain⟨⟨jt,jal⟩,⟨yk,⟨y1,y2,y3⟩,yt,yn,yo,ya⟩⟩:=y;obtain⟨⟨jt2,jal2⟩,⟨zk,⟨z1,z2,z3⟩,zt,zn,zo,za⟩⟩:=z
   replace hcs:d2k wr b (off+j * 10) [S jt,S jal,.int .i64 yk,.int .i64 y1,.int .i64 y2,S y3,S yt,S yn,.int .i64 yo,.slice asl ya.length cs]:=hcs
   replace hcs2:d2k wr b2 (off2+j * 10) [S jt2,S jal2,.int .i64 zk,.int .i64 z1,.int .i64 z2,S z3,S zt,S zn,.int .i64 zo,.slice asl2 za.length cs2]:=hcs2
   have e0:=d2k.cell0 hcs rfl;have e1:=hcs 1 _ rfl;have e2:=hcs 2 _ rfl;have e3:=hcs 3 _ rfl;have e4:=hcs 4 _ rfl;have e5:=hcs 5 _ rfl;have e6:=hcs 6 _ rfl;have e7:=hcs 7 _ rfl;have e8:=hcs 8 _ rfl;have e9:=hcs 9 _ rfl;have i0:=d2k.cell0 hcs2 rfl;have i1:=hcs2 1 _ rfl;have i2:=hcs2 2 _ rfl;have i3:=hcs2 3 _ rfl;have i4:=hcs2 4 _ rfl;have i5:=hcs2 5 _ rfl;have i6:=hcs2 6 _ rfl;have i7:=hcs2 7 _ rfl;have i8:=hcs2 8 _ rfl;have i9:=hcs2 9 _ rfl;clear hcs hcs2;go_wp2_with fail;refine(HF.o (⟨⟨jt,jal⟩,(.mk yk (y1,y2,y3) yt yn yo ya)⟩:Jo) HM.o (⟨⟨jt2,jal2⟩,(.mk zk (z1,z2,z3) zt zn zo za)⟩:Jo) _ (.slice asl ya.length cs) (.slice asl2 za.length cs2) (HB.o.call (((Bl.refl _).alloc _).alloc _)) (HR.o.1.bl (((Bl.refl _).alloc _).alloc _)) (HR.o.2.bl (((Bl.refl _).alloc _).alloc _))).mono ?_;rintro e w1 ⟨rfl,hb1⟩;have HB1:=aB ((HB.o.call (((Bl.refl _).alloc _).alloc _)).call hb1);clear hb1 e0 e1 e2 e3 e4 e5 e6 e7 e8 e9 i0 i1 i2 i3 i4 i5 i6 i7 i8 i9;cases hs:same (⟨⟨jt,jal⟩,(.mk yk (y1,y2,y3) yt yn yo ya)⟩:Jo) (⟨⟨jt2,jal2⟩,(.mk zk (z1,z2,z3) zt zn zo za)⟩:Jo)
   ·have HN:=aB (show R=false from by rw[HDj.o,hs,pK]);clear hs;go_wp2;go_ret;exact⟨by rw[HN.o];rfl,HB1.o⟩
   ·have HN:=aB (show R=samesBy same (l.drop (j+1)) (m.drop (j+1)) from by rw[HDj.o,hs,rC]);clear hs;go_wp2;go_roundw
    case rel=>exact⟨j+1,by omega,by go_num,HN.o,HB1.o⟩
    case measure=>simp[intOf];omega
  ·obtain rfl:j=l.length:=by omega
   have HN:=aB (show R=true from by rw[HD.o,dO,HLE.o,dO];rfl);go_wp2;go_ret;exact⟨by rw[HN.o];rfl,HB.o⟩
theorem equalO_any{W:World}{a a2:Option Addr}{cap cap2:Nat}{l m:List Od}{same:Od->Od->Bool}{q r:Nat->Prop}{fn:FuncId}(hen:∀(args:Array Value) (w:World),(callFunc fn args).run prog w= .ok (.enter fn args) w)(hlen:l.length<=1000000)(hR:d2p fOd q W (.slice a l.length cap) l)(hR2:d2p fOd r W (.slice a2 m.length cap2) m)
  (hf:∀y∈l,∀(z:Od) (W':World) (s s2:Value),Bl W W'->bG q W' s (Form.ex fOd y).args->bG r W' s2 (Form.ex fOd z).args->eg fn #[.agg (fOd.cells y s).toArray,.agg (fOd.cells z s2).toArray] W' fun e w'=>e= .returned (.bool (same y z))/\Bl W' w'):
  eg 85 #[.slice a l.length cap,.slice a2 m.length cap2,.func (.func fn) #[] #[]] W fun e w'=>e= .returned (.bool (samesBy same l m))/\Bl W w':=by
 by_cases hl:l.length=m.length
 case neg=>
  rw[samesBy_ne hl];have hl':¬(l.length:Int)=(m.length:Int):=aE;have hb:((l.length:Int)==(m.length:Int))=false:=av;have hb':((l.length:Int) != (m.length:Int))=true:=av;clear hl hl' hR hR2 hf hlen;go_enter func85,ntmps85;go_wp2;go_ret;exact⟨rfl,Bl.refl W⟩
 obtain⟨a',cap',e,hc⟩:=hR.shape;obtain⟨rfl,rfl⟩:a=a'/\cap=cap':=ba;obtain⟨a3,cap3,e3,hc2⟩:=hR2.shape;obtain⟨rfl,rfl⟩:a2=a3/\cap2=cap3:=cr;have HC:=aB hc;have HC2:=aB hc2;have HF:=aB hf;have HLE:=aB hl;rw[<-hl];obtain⟨R,HRR⟩:∃R,Hid (samesBy same l m=R):=⟨_,rfl⟩
 rw[HRR.o];clear hR hR2 hc hc2 hf e e3 hl;go_enter func85,ntmps85;go_wp2_with fail;go_loopw [17] (fun i wr=>∃j:Nat,j<=l.length/\i= .int .i64 (j:Int)/\Hid (R=samesBy same (l.drop j) (m.drop j))/\Hid (Bl W wr)) (fun i _=>l.length-(intOf i).toNat)
 case atStart=>exact⟨0,dL _,rfl,HRR.o.symm,Bl.refl W⟩
 case round=>
  obtain⟨j,hj,rfl,HD,HB⟩:=hrel;by_cases hlt:j<l.length
  ·have hlt2:j<m.length:=by have:=HLE.o;omega
   obtain⟨b,off,s,rfl,-,hbl,hcs,hr⟩:=HC.o j hlt;obtain⟨b2,off2,s2,rfl,-,hbl2,hcs2,hr2⟩:=HC2.o j hlt2;have HDj:=aB (HD.o.trans (samesBy_drop hlt hlt2));have HM:=aB (dS hlt);have HR:=aB (bT (hr.bl HB.o) (hr2.bl HB.o))
   replace hcs:=hcs.keep (HB.o.block b hbl)
   replace hcs2:=hcs2.keep (HB.o.block b2 hbl2)
   have hz:=HB.o.size;have hbw:b2<wr.heap.size:=aE;have hlt':(j:Int)<(l.length:Int):=aE;obtain⟨asl,cs,rfl⟩:=hr.shape;obtain⟨asl2,cs2,rfl⟩:=hr2.shape;clear hr hr2 HD;generalize l[j]=y at *;generalize m[j]=z at *;obtain⟨⟨yk,⟨y1,y2,y3⟩,yt,yn,yo,ya⟩,dn⟩:=y;obtain⟨⟨zk,⟨z1,z2,z3⟩,zt,zn,zo,za⟩,dn2⟩:=z
   replace hcs:d2k wr b (off+j * 9) [.int .i64 yk,.int .i64 y1,.int .i64 y2,S y3,S yt,S yn,.int .i64 yo,.slice asl ya.length cs,.bool dn]:=hcs
   replace hcs2:d2k wr b2 (off2+j * 9) [.int .i64 zk,.int .i64 z1,.int .i64 z2,S z3,S zt,S zn,.int .i64 zo,.slice asl2 za.length cs2,.bool dn2]:=hcs2
   have e0:=d2k.cell0 hcs rfl;have e1:=hcs 1 _ rfl;have e2:=hcs 2 _ rfl;have e3:=hcs 3 _ rfl;have e4:=hcs 4 _ rfl;have e5:=hcs 5 _ rfl;have e6:=hcs 6 _ rfl;have e7:=hcs 7 _ rfl;have e8:=hcs 8 _ rfl;have i0:=d2k.cell0 hcs2 rfl;have i1:=hcs2 1 _ rfl;have i2:=hcs2 2 _ rfl;have i3:=hcs2 3 _ rfl;have i4:=hcs2 4 _ rfl;have i5:=hcs2 5 _ rfl;have i6:=hcs2 6 _ rfl;have i7:=hcs2 7 _ rfl;have i8:=hcs2 8 _ rfl;clear hcs hcs2;go_wp2_with fail;refine(HF.o (⟨(.mk yk (y1,y2,y3) yt yn yo ya),dn⟩:Od) HM.o (⟨(.mk zk (z1,z2,z3) zt zn zo za),dn2⟩:Od) _ (.slice asl ya.length cs) (.slice asl2 za.length cs2) (HB.o.call (((Bl.refl _).alloc _).alloc _)) (HR.o.1.bl (((Bl.refl _).alloc _).alloc _)) (HR.o.2.bl (((Bl.refl _).alloc _).alloc _))).mono ?_;rintro e w1 ⟨rfl,hb1⟩;have HB1:=aB ((HB.o.call (((Bl.refl _).alloc _).alloc _)).call hb1);clear hb1 e0 e1 e2 e3 e4 e5 e6 e7 e8 i0 i1 i2 i3 i4 i5 i6 i7 i8;cases hs:same (⟨(.mk yk (y1,y2,y3) yt yn yo ya),dn⟩:Od) (⟨(.mk zk (z1,z2,z3) zt zn zo za),dn2⟩:Od)
   ·have HN:=aB (show R=false from by rw[HDj.o,hs,pK]);clear hs;go_wp2;go_ret;exact⟨by rw[HN.o];rfl,HB1.o⟩
   ·have HN:=aB (show R=samesBy same (l.drop (j+1)) (m.drop (j+1)) from by rw[HDj.o,hs,rC]);clear hs;go_wp2;go_roundw
    case rel=>exact⟨j+1,by omega,by go_num,HN.o,HB1.o⟩
    case measure=>simp[intOf];omega
  ·obtain rfl:j=l.length:=by omega
   have HN:=aB (show R=true from by rw[HD.o,dO,HLE.o,dO];rfl);go_wp2;go_ret;exact⟨by rw[HN.o];rfl,HB.o⟩
end
section
theorem qsameItem_any{x y:It}(hx:fC x.x<=1000000)(W:World)(s s2:Value)(h1:gU W s x.x.args)(h2:gU W s2 y.x.args):eg 82 #[.agg (fIt.cells x s).toArray,.agg (fIt.cells y s2).toArray] W fun e w'=>e= .returned (.bool (sameIt x y))/\Bl W w':=by
 have HS:=aB (fun(B:World) (hb:Bl W B)=>b7d _ x.x y.x (aH _) hx B _ _ ⟨_,rfl,h1.bl hb⟩ ⟨_,rfl,h2.bl hb⟩);obtain⟨asl,cs,rfl,-⟩:=h1.shape;obtain⟨asl2,cs2,rfl,-⟩:=h2.shape;obtain⟨st,tt,⟨yk,⟨y1,y2,y3⟩,yt,yn,yo,ya⟩,al⟩:=x;obtain⟨st2,tt2,⟨zk,⟨z1,z2,z3⟩,zt,zn,zo,za⟩,al2⟩:=y;clear h1 h2 hx;simp only[sameIt];show eg 82 #[.agg #[.bool st,S tt,.int .i64 yk,.int .i64 y1,.int .i64 y2,S y3,S yt,S yn,.int .i64 yo,.slice asl ya.length cs,S al],.agg #[.bool st2,S tt2,.int .i64 zk,.int .i64 z1,.int .i64 z2,S z3,S zt,S zn,.int .i64 zo,.slice asl2 za.length cs2,S al2]] W _;generalize hR:(st==st2&&tt==tt2&&al==al2&&kR (.mk yk (y1,y2,y3) yt yn yo ya) (.mk zk (z1,z2,z3) zt zn zo za))=R;have HRR:=aB hR;clear hR;by_cases e1:st=st2
 case neg=>
  have HE:=aB (show R=false from by rw[<-HRR.o];simp[e1]);have hb:(st==st2)=false:=bp;clear HS e1;go_enter func82,ntmps82;go_wp2;go_ret;exact⟨by rw[HE.o];rfl,((Bl.refl W).alloc _).alloc _⟩
 subst e1;by_cases e2:tt=tt2
 case neg=>
  have HE:=aB (show R=false from by rw[<-HRR.o];simp[e2]);have hb:(tt==tt2)=false:=(by simpa using e2);clear HS e2;go_enter func82,ntmps82;go_wp2;go_ret;exact⟨by rw[HE.o];rfl,((Bl.refl W).alloc _).alloc _⟩
 subst e2;by_cases e3:al=al2
 case neg=>
  have HE:=aB (show R=false from by rw[<-HRR.o];simp[e3]);have hb:(al==al2)=false:=cr;clear HS e3;go_enter func82,ntmps82;go_wp2;go_ret;exact⟨by rw[HE.o];rfl,((Bl.refl W).alloc _).alloc _⟩
 subst e3;have HE:=aB (show kR (.mk yk (y1,y2,y3) yt yn yo ya) (.mk zk (z1,z2,z3) zt zn zo za)=R from by rw[<-HRR.o];simp);clear HRR;go_enter func82,ntmps82;go_wp2_with fail;refine(HS.o _ (((Bl.refl W).alloc _).alloc _)).mono ?_;rintro e w1 ⟨rfl,hb1⟩;go_wp2;go_ret;exact⟨by rw[<-HE.o];rfl,(((Bl.refl W).alloc _).alloc _).call hb1⟩
theorem qSame1_any{x y:Jo}(hx:fC x.on<=1000000)(W:World)(s s2:Value)(h1:gU W s x.on.args)(h2:gU W s2 y.on.args):eg 84 #[.agg (fJo.cells x s).toArray,.agg (fJo.cells y s2).toArray] W fun e w'=>e= .returned (.bool (sameJo x y))/\Bl W w':=by
 have HS:=aB (fun(B:World) (hb:Bl W B)=>b7d _ x.on y.on (aH _) hx B _ _ ⟨_,rfl,h1.bl hb⟩ ⟨_,rfl,h2.bl hb⟩);obtain⟨asl,cs,rfl,-⟩:=h1.shape;obtain⟨asl2,cs2,rfl,-⟩:=h2.shape;obtain⟨⟨jt,jal⟩,⟨yk,⟨y1,y2,y3⟩,yt,yn,yo,ya⟩⟩:=x;obtain⟨⟨jt2,jal2⟩,⟨zk,⟨z1,z2,z3⟩,zt,zn,zo,za⟩⟩:=y;clear h1 h2 hx;simp only[sameJo,sameSo];show eg 84 #[.agg #[S jt,S jal,.int .i64 yk,.int .i64 y1,.int .i64 y2,S y3,S yt,S yn,.int .i64 yo,.slice asl ya.length cs],.agg #[S jt2,S jal2,.int .i64 zk,.int .i64 z1,.int .i64 z2,S z3,S zt,S zn,.int .i64 zo,.slice asl2 za.length cs2]] W _;generalize hR:(jt==jt2&&jal==jal2&&kR (.mk yk (y1,y2,y3) yt yn yo ya) (.mk zk (z1,z2,z3) zt zn zo za))=R;have HRR:=aB hR;clear hR;by_cases e1:jt=jt2
 case neg=>
  have HE:=aB (show R=false from by rw[<-HRR.o];simp[e1]);have hb:(jt==jt2)=false:=bp;clear HS e1;go_enter func84,ntmps84;go_wp2;go_ret;exact⟨by rw[HE.o];rfl,((Bl.refl W).alloc _).alloc _⟩
 subst e1;by_cases e2:jal=jal2
 case neg=>
  have HE:=aB (show R=false from by rw[<-HRR.o];simp[e2]);have hb:(jal==jal2)=false:=(by simpa using e2);clear HS e2;go_enter func84,ntmps84;go_wp2;go_ret;exact⟨by rw[HE.o];rfl,((Bl.refl W).alloc _).alloc _⟩
 subst e2;have HE:=aB (show kR (.mk yk (y1,y2,y3) yt yn yo ya) (.mk zk (z1,z2,z3) zt zn zo za)=R from by rw[<-HRR.o];simp);clear HRR;go_enter func84,ntmps84;go_wp2_with fail;refine(HS.o _ (((Bl.refl W).alloc _).alloc _)).mono ?_;rintro e w1 ⟨rfl,hb1⟩;go_wp2;go_ret;exact⟨by rw[<-HE.o];rfl,(((Bl.refl W).alloc _).alloc _).call hb1⟩
theorem qSame2_any{x y:Od}(hx:fC x.x<=1000000)(W:World)(s s2:Value)(h1:gU W s x.x.args)(h2:gU W s2 y.x.args):eg 86 #[.agg (fOd.cells x s).toArray,.agg (fOd.cells y s2).toArray] W fun e w'=>e= .returned (.bool (sameOd x y))/\Bl W w':=by
 have HS:=aB (fun(B:World) (hb:Bl W B)=>b7d _ x.x y.x (aH _) hx B _ _ ⟨_,rfl,h1.bl hb⟩ ⟨_,rfl,h2.bl hb⟩);obtain⟨asl,cs,rfl,-⟩:=h1.shape;obtain⟨asl2,cs2,rfl,-⟩:=h2.shape;obtain⟨⟨yk,⟨y1,y2,y3⟩,yt,yn,yo,ya⟩,dn⟩:=x;obtain⟨⟨zk,⟨z1,z2,z3⟩,zt,zn,zo,za⟩,dn2⟩:=y;clear h1 h2 hx;simp only[sameOd];show eg 86 #[.agg #[.int .i64 yk,.int .i64 y1,.int .i64 y2,S y3,S yt,S yn,.int .i64 yo,.slice asl ya.length cs,.bool dn],.agg #[.int .i64 zk,.int .i64 z1,.int .i64 z2,S z3,S zt,S zn,.int .i64 zo,.slice asl2 za.length cs2,.bool dn2]] W _;generalize hR:(dn==dn2&&kR (.mk yk (y1,y2,y3) yt yn yo ya) (.mk zk (z1,z2,z3) zt zn zo za))=R;have HRR:=aB hR;clear hR;by_cases e1:dn=dn2
 case neg=>
  have HE:=aB (show R=false from by rw[<-HRR.o];simp[e1]);have hb:(dn==dn2)=false:=bp;clear HS e1;go_enter func86,ntmps86;go_wp2;go_ret;exact⟨by rw[HE.o];rfl,((Bl.refl W).alloc _).alloc _⟩
 subst e1;have HE:=aB (show kR (.mk yk (y1,y2,y3) yt yn yo ya) (.mk zk (z1,z2,z3) zt zn zo za)=R from by rw[<-HRR.o];simp);clear HRR;go_enter func86,ntmps86;go_wp2_with fail;refine(HS.o _ (((Bl.refl W).alloc _).alloc _)).mono ?_;rintro e w1 ⟨rfl,hb1⟩;go_wp2;go_ret;exact⟨by rw[<-HE.o];rfl,(((Bl.refl W).alloc _).alloc _).call hb1⟩
end
section
theorem qSame_any{p q:Qu}(hp0:d9u 1000000 p){W:World}{v u:Value}(hv:d5o W p v)(hu:d5o W q u):eg 36 #[v,u] W fun e w'=>e= .returned (.bool (sameQ p q))/\Bl W w':=by
 obtain⟨si,sj,sw,sg,sh,so,rfl,hp⟩:=hv;obtain⟨ui,uj,uw,ug,uh,uo,rfl,hp2⟩:=hu;obtain⟨ai,ci,aj,cj,aw,cw,ag,cg,ah,ch,ao,co,rfl,rfl,rfl,rfl,rfl,rfl⟩:=hp.slices;obtain⟨bi,di,bj,dj,bw,dw,bg,dg,bh,dh,bo,do',rfl,rfl,rfl,rfl,rfl,rfl⟩:=hp2.slices;have hi0:∀(args:Array Value) (w:World),(callFunc 82 args).run prog w= .ok (.enter 82 args) w:=fun args w=>an;have hj0:∀(args:Array Value) (w:World),(callFunc 84 args).run prog w= .ok (.enter 84 args) w:=fun args w=>an;have ho0:∀(args:Array Value) (w:World),(callFunc 86 args).run prog w= .ok (.enter 86 args) w:=fun args w=>an;have HSI:Hid (∀w,Bl W w->eg 42 #[.slice ai p.items.length ci,.slice bi q.items.length di,.func (.func 82) #[] #[]] w fun e w'=>e= .returned (.bool (samesBy sameIt p.items q.items))/\Bl w w'):=fun w hb=>equalI_any hi0 hp0.li (hp.items.bl hb) (hp2.items.bl hb) fun y hy z W' s s2 _ r1 r2=>qsameItem_any (hp0.items y hy) W' s s2 r1.reads r2.reads;have HSJ:Hid (∀w,Bl W w->eg 83 #[.slice aj p.joins.length cj,.slice bj q.joins.length dj,.func (.func 84) #[] #[]] w fun e w'=>e= .returned (.bool (samesBy sameJo p.joins q.joins))/\Bl w w'):=fun w hb=>equalJ_any hj0 hp0.lj (hp.joins.bl hb) (hp2.joins.bl hb) fun y hy z W' s s2 _ r1 r2=>qSame1_any (hp0.joins y hy) W' s s2 r1.reads r2.reads;have HSO:Hid (∀w,Bl W w->eg 85 #[.slice ao p.orders.length co,.slice bo q.orders.length do',.func (.func 86) #[] #[]] w fun e w'=>e= .returned (.bool (samesBy sameOd p.orders q.orders))/\Bl w w'):=fun w hb=>equalO_any ho0 hp0.lo (hp.orders.bl hb) (hp2.orders.bl hb) fun y hy z W' s s2 _ r1 r2=>qSame2_any (hp0.orders y hy) W' s s2 r1.reads r2.reads;have HSG:Hid (∀w,Bl W w->eg 81 #[.slice ag p.group.length cg,.slice bg q.group.length dg,.func (.func 39) #[] #[]] w fun e w'=>e= .returned (.bool (lQ p.group q.group))/\Bl w w'):=fun w hb=>c3u hp0.lg (hp.group.reads.bl hb) (hp2.group.reads.bl hb) fun y hy z W' v u _ h1 h2=>b7d _ y z (aH _) (hp0.group y hy) W' v u h1 h2;have HSW:Hid (∀w,Bl W w->eg 39 #[EV p.wher.k p.wher.v p.wher.t p.wher.n p.wher.o (.slice aw p.wher.args.length cw),EV q.wher.k q.wher.v q.wher.t q.wher.n q.wher.o (.slice bw q.wher.args.length dw)] w fun e w'=>e= .returned (.bool (kR p.wher q.wher))/\Bl w w'):=fun w hb=>b7d _ _ _ (aH _) hp0.wher w _ _ ⟨_,rfl,hp.wher.reads.bl hb⟩ ⟨_,rfl,hp2.wher.reads.bl hb⟩;have HSH:Hid (∀w,Bl W w->eg 39 #[EV p.having.k p.having.v p.having.t p.having.n p.having.o (.slice ah p.having.args.length ch),EV q.having.k q.having.v q.having.t q.having.n q.having.o (.slice bh q.having.args.length dh)] w fun e w'=>e= .returned (.bool (kR p.having q.having))/\Bl w w'):=fun w hb=>b7d _ _ _ (aH _) hp0.having w _ _ ⟨_,rfl,hp.having.reads.bl hb⟩ ⟨_,rfl,hp2.having.reads.bl hb⟩;have HX:=aB (bT ((aW (W.alloc (.cells (quC p (.slice ai p.items.length ci) (.slice aj p.joins.length cj) (.slice aw p.wher.args.length cw) (.slice ag p.group.length cg) (.slice ah p.having.args.length ch) (.slice ao p.orders.length co)).toArray 41)) (.cells (quC q (.slice bi q.items.length di) (.slice bj q.joins.length dj) (.slice bw q.wher.args.length dw) (.slice bg q.group.length dg) (.slice bh q.having.args.length dh) (.slice bo q.orders.length do')).toArray 41) aa).trans (aN W _)) (aV (W.alloc (.cells (quC p (.slice ai p.items.length ci) (.slice aj p.joins.length cj) (.slice aw p.wher.args.length cw) (.slice ag p.group.length cg) (.slice ah p.having.args.length ch) (.slice ao p.orders.length co)).toArray 41)) (.cells (quC q (.slice bi q.items.length di) (.slice bj q.joins.length dj) (.slice bw q.wher.args.length dw) (.slice bg q.group.length dg) (.slice bh q.having.args.length dh) (.slice bo q.orders.length do')).toArray 41) (k:=W.heap.size+1) aa))
 have HB:=aB (((Bl.refl W).alloc (.cells (quC p (.slice ai p.items.length ci) (.slice aj p.joins.length cj) (.slice aw p.wher.args.length cw) (.slice ag p.group.length cg) (.slice ah p.having.args.length ch) (.slice ao p.orders.length co)).toArray 41)).alloc (.cells (quC q (.slice bi q.items.length di) (.slice bj q.joins.length dj) (.slice bw q.wher.args.length dw) (.slice bg q.group.length dg) (.slice bh q.having.args.length dh) (.slice bo q.orders.length do')).toArray 41));obtain⟨R,HR⟩:∃R,Hid (R=sameQ p q):=⟨_,rfl⟩
 rw[<-HR.o];have HE:Hid (R=_):=HR.o.trans (by unfold sameQ;rfl);obtain⟨c0,c1,c2,c3,c4,c5,c6,c7,c8,c9,c10,c11,c12,c13,c14,c15,c16,c17,c18,c19,c20,c21,c22,c23⟩:=d6s HX.o.1;obtain⟨d0,d1,d2,d3,d4,d5,d6,d7,d8,d9,d10,d11,d12,d13,d14,d15,d16,d17,d18,d19,d20,d21,d22,d23⟩:=d6s HX.o.2;clear hp hp2 HR hp0 hi0 hj0 ho0;by_cases e1:p.distinct=q.distinct
 case neg=>
  have HF:=aB (show R=false from by rw[HE.o];simp[e1]);have hb1:(p.distinct==q.distinct)=false:=bp;clear e1 HE HSI HSJ HSO HSG HSW HSH;go_enter func36,ntmps36;go_wp2;go_ret;exact⟨by rw[HF.o];first |rfl|simp,HB.o⟩
 have hb1:(p.distinct==q.distinct)=true:=by simpa using e1
 replace HE:=aB (HE.o.trans (by rw[hb1]))
 clear e1;go_enter func36,ntmps36;go_wp2_with fail;refine(HSI.o _ HB.o).mono ?_;rintro e w9 ⟨rfl,hb⟩
 replace HB:=aB (HB.o.call hb)
 replace HX:=aB (bT (keep1 HX.o.1 hb) (keep1 HX.o.2 hb))
 clear hb c0 c1 c2 c3 c4 c5 c6 c7 c8 c9 c10 c11 c12 c13 c14 c15 c16 c17 c18 c19 c20 c21 c22 c23 d0 d1 d2 d3 d4 d5 d6 d7 d8 d9 d10 d11 d12 d13 d14 d15 d16 d17 d18 d19 d20 d21 d22 d23;obtain⟨c0,c1,c2,c3,c4,c5,c6,c7,c8,c9,c10,c11,c12,c13,c14,c15,c16,c17,c18,c19,c20,c21,c22,c23⟩:=d6s HX.o.1;obtain⟨d0,d1,d2,d3,d4,d5,d6,d7,d8,d9,d10,d11,d12,d13,d14,d15,d16,d17,d18,d19,d20,d21,d22,d23⟩:=d6s HX.o.2;cases hs2:(samesBy sameIt p.items q.items)
 ·have HF:=aB (show R=false from by rw[HE.o];simp[hs2]);clear hs2 HE;go_wp2;go_ret;exact⟨by rw[HF.o];first |rfl|simp,HB.o⟩
 replace HE:=aB (HE.o.trans (by rw[hs2]))
 clear hs2;by_cases f1:p.frm.t=q.frm.t
 case neg=>
  have HF:=aB (show R=false from by rw[HE.o];simp[sameSo,f1]);have hb2:(p.frm.t==q.frm.t)=false:=cq;clear f1 HE HSI HSJ HSO HSG HSW HSH;go_wp2;go_ret;exact⟨by rw[HF.o];first |rfl|simp,HB.o⟩
 have hb2:(p.frm.t==q.frm.t)=true:=cq;by_cases f2:p.frm.al=q.frm.al
 case neg=>
  have HF:=aB (show R=false from by rw[HE.o];simp[sameSo,f2]);have hb3:(p.frm.al==q.frm.al)=false:=(by simpa using f2);clear f1 f2 HE HSI HSJ HSO HSG HSW HSH;go_wp2;go_ret;exact⟨by rw[HF.o];first |rfl|simp,HB.o⟩
 have hb3:(p.frm.al==q.frm.al)=true:=by simpa using f2
 replace HE:=aB (HE.o.trans (by rw[show sameSo p.frm q.frm=true from by simp[sameSo,f1,f2]]))
 clear f1 f2;go_wp2_with fail;refine(HSW.o _ HB.o).mono ?_;rintro e w9 ⟨rfl,hb⟩
 replace HB:=aB (HB.o.call hb)
 replace HX:=aB (bT (keep1 HX.o.1 hb) (keep1 HX.o.2 hb))
 clear hb c0 c1 c2 c3 c4 c5 c6 c7 c8 c9 c10 c11 c12 c13 c14 c15 c16 c17 c18 c19 c20 c21 c22 c23 d0 d1 d2 d3 d4 d5 d6 d7 d8 d9 d10 d11 d12 d13 d14 d15 d16 d17 d18 d19 d20 d21 d22 d23;obtain⟨c0,c1,c2,c3,c4,c5,c6,c7,c8,c9,c10,c11,c12,c13,c14,c15,c16,c17,c18,c19,c20,c21,c22,c23⟩:=d6s HX.o.1;obtain⟨d0,d1,d2,d3,d4,d5,d6,d7,d8,d9,d10,d11,d12,d13,d14,d15,d16,d17,d18,d19,d20,d21,d22,d23⟩:=d6s HX.o.2;cases hs3:(kR p.wher q.wher)
 ·have HF:=aB (show R=false from by rw[HE.o];simp[hs3]);clear hs3 HE;go_wp2;go_ret;exact⟨by rw[HF.o];first |rfl|simp,HB.o⟩
 replace HE:=aB (HE.o.trans (by rw[hs3]))
 clear hs3;go_wp2_with fail;refine(HSH.o _ HB.o).mono ?_;rintro e w9 ⟨rfl,hb⟩
 replace HB:=aB (HB.o.call hb)
 replace HX:=aB (bT (keep1 HX.o.1 hb) (keep1 HX.o.2 hb))
 clear hb c0 c1 c2 c3 c4 c5 c6 c7 c8 c9 c10 c11 c12 c13 c14 c15 c16 c17 c18 c19 c20 c21 c22 c23 d0 d1 d2 d3 d4 d5 d6 d7 d8 d9 d10 d11 d12 d13 d14 d15 d16 d17 d18 d19 d20 d21 d22 d23;obtain⟨c0,c1,c2,c3,c4,c5,c6,c7,c8,c9,c10,c11,c12,c13,c14,c15,c16,c17,c18,c19,c20,c21,c22,c23⟩:=d6s HX.o.1;obtain⟨d0,d1,d2,d3,d4,d5,d6,d7,d8,d9,d10,d11,d12,d13,d14,d15,d16,d17,d18,d19,d20,d21,d22,d23⟩:=d6s HX.o.2;cases hs4:(kR p.having q.having)
 ·have HF:=aB (show R=false from by rw[HE.o];simp[hs4]);clear hs4 HE;go_wp2;go_ret;exact⟨by rw[HF.o];first |rfl|simp,HB.o⟩
 replace HE:=aB (HE.o.trans (by rw[hs4]))
 clear hs4;by_cases f3:p.limit=q.limit
 case neg=>
  have HF:=aB (show R=false from by rw[HE.o];simp[f3]);have hb4:(p.limit==q.limit)=false:=(by simpa using f3);clear f3 HE HSI HSJ HSO HSG HSW HSH;go_wp2;go_ret;exact⟨by rw[HF.o];first |rfl|simp,HB.o⟩
 have hb4:(p.limit==q.limit)=true:=by simpa using f3
 replace HE:=aB (HE.o.trans (by rw[hb4]))
 clear f3;go_wp2_with fail;refine(HSG.o _ HB.o).mono ?_;rintro e w9 ⟨rfl,hb⟩
 replace HB:=aB (HB.o.call hb)
 replace HX:=aB (bT (keep1 HX.o.1 hb) (keep1 HX.o.2 hb))
 clear hb c0 c1 c2 c3 c4 c5 c6 c7 c8 c9 c10 c11 c12 c13 c14 c15 c16 c17 c18 c19 c20 c21 c22 c23 d0 d1 d2 d3 d4 d5 d6 d7 d8 d9 d10 d11 d12 d13 d14 d15 d16 d17 d18 d19 d20 d21 d22 d23;obtain⟨c0,c1,c2,c3,c4,c5,c6,c7,c8,c9,c10,c11,c12,c13,c14,c15,c16,c17,c18,c19,c20,c21,c22,c23⟩:=d6s HX.o.1;obtain⟨d0,d1,d2,d3,d4,d5,d6,d7,d8,d9,d10,d11,d12,d13,d14,d15,d16,d17,d18,d19,d20,d21,d22,d23⟩:=d6s HX.o.2;cases hs5:(lQ p.group q.group)
 ·have HF:=aB (show R=false from by rw[HE.o];simp[hs5]);clear hs5 HE;go_wp2;go_ret;exact⟨by rw[HF.o];first |rfl|simp,HB.o⟩
 replace HE:=aB (HE.o.trans (by rw[hs5]))
 clear hs5;go_wp2_with fail;refine(HSJ.o _ HB.o).mono ?_;rintro e w9 ⟨rfl,hb⟩
 replace HB:=aB (HB.o.call hb)
 replace HX:=aB (bT (keep1 HX.o.1 hb) (keep1 HX.o.2 hb))
 clear hb c0 c1 c2 c3 c4 c5 c6 c7 c8 c9 c10 c11 c12 c13 c14 c15 c16 c17 c18 c19 c20 c21 c22 c23 d0 d1 d2 d3 d4 d5 d6 d7 d8 d9 d10 d11 d12 d13 d14 d15 d16 d17 d18 d19 d20 d21 d22 d23;obtain⟨c0,c1,c2,c3,c4,c5,c6,c7,c8,c9,c10,c11,c12,c13,c14,c15,c16,c17,c18,c19,c20,c21,c22,c23⟩:=d6s HX.o.1;obtain⟨d0,d1,d2,d3,d4,d5,d6,d7,d8,d9,d10,d11,d12,d13,d14,d15,d16,d17,d18,d19,d20,d21,d22,d23⟩:=d6s HX.o.2;cases hs6:(samesBy sameJo p.joins q.joins)
 ·have HF:=aB (show R=false from by rw[HE.o];simp[hs6]);clear hs6 HE;go_wp2;go_ret;exact⟨by rw[HF.o];first |rfl|simp,HB.o⟩
 replace HE:=aB (HE.o.trans (by rw[hs6]))
 clear hs6;go_wp2_with fail;refine(HSO.o _ HB.o).mono ?_;rintro e w8 ⟨rfl,hb⟩;go_wp2;go_ret;exact⟨by rw[HE.o];simp,HB.o.call hb⟩
end
section
end
section
end
section
theorem qItemsText_yes{l:List It}(hlen:l.length<=1000000)(hi:∀i∈l,e7f i)(hr:d4l l=true)(hT:(d5q l).length<=100000000){p:Nat->Prop}{W:World}{v:Value}(hR:d2p fIt p W v l)(hG:nD W):eg 23 #[v] W fun e w'=>e= .returned (.tuple #[S (d5q l),.int .i64 0])/\Bl W w':=by
 obtain⟨a,c,rfl,-⟩:=hR.shape;have hr2:=hr;unfold d4l at hr2;simp only[aQ,decide_eq_true_eq] at hr2;have ha:=jA.1 hr2.2;have hne:l≠[]:=fun h=>(by rw[h] at hr2;exact absurd hr2.1.1 ae);have H1:Hid (∀w,Bl W w->eg 74 #[.slice a l.length c] w fun e w'=>e= .returned (.bool true)/\Bl w w'):=fun w hb=>by
  have h:=e1x hlen hi (hR.bl hb) (hG.bl hb);rw[hr] at h;exact h
 have HTI:Hid (∀w,Bl W w->eg 76 #[.slice a l.length c,.func (.func 77) #[] #[]] w fun e w'=>(∃v,e= .returned v/\sW w' v (l.map d5x))/\Bl w w'):=fun w hb=>by
  refine(e1p (tx:=d5x) (fn:=77) #[] d6v hlen (hR.bl hb) (fun y hy W' s hb' hs=>d8r (ha y hy) (hi y hy) (d5g (s:=[44,32]) (show(jR [44,32] (l.map d5x)).length<=100000000 from hT) y hy) hs (hG.bl (hb.call hb')))).mono ?_;rintro e w' ⟨⟨v,he,hv⟩,hb2⟩;exact⟨⟨v,he,d8m hv hne⟩,hb2⟩
 have HC:Hid (∀w v,sW w v (l.map d5x)->eg 75 #[v] w fun e w'=>e= .returned (S (d5q l))/\Bl w w'):=fun w v hv=>d5r hv (by simpa using hlen) hT;clear hR hi hr hr2 ha hG hT;generalize d5q l=u1 at *;go_enter func23,ntmps23;go_wp2_with fail;refine(H1.o _ (Bl.refl W)).mono ?_;rintro e w1 ⟨rfl,hb1⟩;go_wp2_with fail;refine(HTI.o _ hb1).mono ?_;rintro e w2 ⟨⟨v,rfl,hv⟩,hb2⟩;have HV:=aB hv;clear hv;go_wp2_with fail;refine(HC.o _ _ HV.o).mono ?_;rintro e w3 ⟨rfl,hb3⟩;go_wp2;go_ret2;exact⟨rfl,(hb1.call hb2).call hb3⟩
theorem qItemsText_no{l:List It}(hlen:l.length<=1000000)(hi:∀i∈l,e7f i)(hr:d4l l=false){p:Nat->Prop}{W:World}{v:Value}(hR:d2p fIt p W v l)(hG:nD W):eg 23 #[v] W fun e w'=>e= .returned (.tuple #[S [],.int .i64 2])/\Bl W w':=by
 obtain⟨a,c,rfl,-⟩:=hR.shape;have H1:=aB (e1x hlen hi hR hG);rw[hr] at H1;clear hR hi hr hG;go_enter func23,ntmps23;go_wp2_with fail;refine H1.o.mono ?_;rintro e w1 ⟨rfl,hb1⟩;go_wp2;go_ret2;exact⟨rfl,hb1⟩
end
end Go.Proofs.YtohlomdapelgeaaGreatDoor
