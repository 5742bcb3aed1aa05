/- Texts beside the shared ones. -/
import Derived.Test.YtohlomdapelgeaaGreatDoorWX0
import Derived.RangeFuncBox
import Derived.RangeFuncCalls
import Derived.RangeFuncNested
namespace Go.Proofs.YtohlomdapelgeaaGreatDoor
open Go.RowKit
open _root_.Array renaming getElem?_eq_some_iff->aC
open _root_.Go.RowKit.Below renaming grown->iL,heap_setCell->fA,refl->bS
open _root_.Nat renaming le_refl->aH,le_trans->jH,lt_of_lt_of_le->gK
open _root_.Go.World renaming size_alloc->aR
set_option maxRecDepth 100000
section
section
variable {P:Program}
theorem roundIn_any{m m':Nat}{l:Nat}{f:FuncId}{tmps:Array Value}{assign body:Code}{w:World}{R:Ending->World->Prop}(h:RoundIn Fence.wide m P l f tmps assign body w R):RoundIn Fence.wide m' P l f tmps assign body w R:=⟨h.1,fun c cs _=>h.2 c cs (room_wide _)⟩
theorem ownFrom_more{β:Type}{B B':Nat}{I:β->World->Prop}(h:OwnFrom B I)(hB:B<=B'):OwnFrom B' I:=fun s X Y row hs hg hr=>h s X Y row hs hg fun r e=>⟨jH hB (hr r e).1,(hr r e).2⟩
structure KeepsUp(B:Nat)(W W':World):Prop where
 size:W.heap.size<=W'.heap.size
 same:∀k,B<=k->k<W.heap.size->W'.heap[k]?=W.heap[k]?
theorem KeepsUp.refl(B:Nat)(W:World):KeepsUp B W W:=⟨aH _,fun _ _ _=>rfl⟩
theorem KeepsUp.trans{B:Nat}{X Y Z:World}(h:KeepsUp B X Y)(k:KeepsUp B Y Z):KeepsUp B X Z:=⟨jH h.size k.size,fun i hB hi=>(k.same i hB (gK hi h.size)).trans (h.same i hB hi)⟩
theorem KeepsUp.later{B B':Nat}{X Y:World}(h:KeepsUp B X Y)(hB:B<=B'):KeepsUp B' X Y:=⟨h.size,fun k hk=>h.same k (jH hB hk)⟩
theorem KeepsUp.obj{B:Nat}(W:World){r:Nat}(o:Obj)(h:r<B):KeepsUp B W (W.putObj r o):=⟨by simp,fun k hk _=>World.putObj_heap_other aE⟩
theorem KeepsUp.at{B k:Nat}{X Y:World}{o:Obj}(h:KeepsUp B X Y)(hB:B<=k)(hk:X.heap[k]?=some o):Y.heap[k]?=some o:=(h.same k hB (aC.1 hk).1).trans hk
theorem KeepsUp.bl{B:Nat}{X Y:World}(h:Below X.heap.size X Y):KeepsUp B X Y:=⟨h.size,fun k _ hk=>h.block k hk⟩
theorem KeepsUp.setCell{B:Nat}(W:World){a:Addr}(v:Value)(h:a.block<B):KeepsUp B W (W.setCell a v):=⟨by show W.heap.size<=(W.heap.modify _ _).size;rw[Array.size_modify];exact aH _,fun k hk _=>fA W a v k aE⟩
def postW{α:Type}(B n₀:Nat)(I:List α->World->Prop)(Ix:Code->List α->World->Prop)(xs:List α)(W:World):Exit->Act->World->Prop
 | .normal,_,W'=>KeepsUp B W W'/\Below n₀ W W'/\I xs W'
 | .ret,_,W'=>KeepsUp B W W'/\Ix .ret xs W'
 | .exit id,_,W'=>KeepsUp B W W'/\Ix (.exit id) xs W'
 | .goto t,_,W'=>KeepsUp B W W'/\Ix (.goto t) xs W'
 | .panic _,_,_=>False
 | .outgrown,_,_=>False
def SeqW{α:Type}(P:Program)(g:Nat)(lb:Array Value)(encs:α->Array Value)(n₀:Nat)(S Sp:List α->Prop)(w:World):Prop:=
 ∀(l:Nat) (J Jx:List α->World->Prop) (W:World),Below w.heap.size w W->OwnFrom W.heap.size J->OwnFrom W.heap.size Jx->
  (∀m pre x W1,J pre W1->Sp (pre++[x])->YieldAt Fence.wide m P l (encs x) W1 fun e W'=>
   KeepsUp W.heap.size W1 W'/\((e= .returned (.bool true)/\J (pre++[x]) W'/\Below n₀ W1 W')\/(e= .returned (.bool false)/\Jx (pre++[x]) W')))->
  J [] W->Calls P g (#[.func (.yield l) #[] #[]]++lb) W fun e W'=>(∃v,e= .returned v)/\((∃xs,S xs/\J xs W')\/(∃pre,Sp pre/\Jx pre W'))
theorem keep_row{A B:World}{row:Option Nat}{k z:Nat}{o:Obj}(hg:A.grownBy B row)(hr:∀r,row=some r->z<=r)(hk:k<z)(h:A.heap[k]?=some o):B.heap[k]?=some o:=
 (hg.block k (aC.1 h).1 (fun e=>by have:=hr k e.symm;omega)).trans h
theorem wpIn_rangeFunc_ownW{α:Type}{g:Operand}{ps:Array Tmp}{assign body:Code}{Q:Exit->Act->World->Prop}{a:Act}{w:World}{n m:Nat}
  {gf:Nat} {lb:Array Value} (hg:a.eval g= .func (.func gf) #[] lb) (eg:∀args w,(callFunc gf args).run P w= .ok (.enter gf args) w)
  {encs:α->Array Value} {n₀:Nat} {S Sp:List α->Prop} (hseq:SeqW P gf lb encs n₀ S Sp w) (hn₀:n₀<=w.heap.size) (hps:∀x,(encs x).size=ps.size)
  (I:List α->World->Prop) (Ix:Code->List α->World->Prop) (hI:OwnFrom w.heap.size I) (hIx:∀c,OwnFrom w.heap.size (Ix c)) (h0:I [] w) (Ax:α->Act->World->Prop) (hAx:∀x a',OwnFrom w.heap.size (fun(_:Unit) W=>Ax x a' W))
  (hassign:∀(l:Nat) (pre:List α) (x:α) (W:World) (K:Act->World->Prop),I pre W->(∀a' W',KeepsUp w.heap.size W W'->Below n₀ W W'->I pre W'->Ax x a' W'->K a' W')->
   assign.wpIn (Fence.wide.inRound l) m P (Exit.then K (fun _ _ _=>False)) {tmps:=(ps.zip (encs x)).foldl (fun t (p,v)=>t.setIfInBounds p v) a.tmps,defers:=[]} W)
  (hbody:∀(l:Nat) (pre:List α) (x:α) (a':Act) (W:World),w.heap.size<=l->I pre W->Ax x a' W->Sp (pre++[x])->body.wpIn (Fence.wide.inRound l) m P (postW w.heap.size n₀ I Ix (pre++[x]) W) a' W)
  (hdone:∀(D:Nat) (xs:List α) (W:World),w.heap.size<=D->S xs->I xs W->W.heap[D]?=some (.deferred (some []))->Q .normal {a with defers:={target:= .collected D,args:= #[]}::a.defers} W)
  (hstop:∀(D:Nat) (c:Code) (pre:List α) (W:World),w.heap.size<=D->Sp pre->Ix c pre W->W.heap[D]?=some (.deferred (some []))->c.wpIn Fence.wide n P Q {a with defers:={target:= .collected D,args:= #[]}::a.defers} W):
  (Code.rangeFunc g ps assign body).wpIn Fence.wide n P Q a w:=by
 refine wpIn_rangeFunc fun fn hfn=>?_;obtain⟨z,hz⟩:∃z,w.heap.size=z:=⟨_,rfl⟩
 obtain⟨L,hL⟩:∃L:LoopState->Option Code->Loop,L=fun st pe=>{state:=st,pending:=pe,fn,tmps:=a.tmps,params:=ps,assign,body,defers:=z}:=⟨_,rfl⟩
 obtain⟨V,hV⟩:∃V,(w.alloc (.deferred (some []))).alloc (.loop (L .ready none))=V:=⟨_,rfl⟩
 have hVz:V.heap.size=z+2:=(by rw[<-hV,<-hz];simp);have hV1:V.heap[z+1]?=some (.loop (L .ready none)):=by
  rw[<-hV,<-hz];have:=World.alloc_heap_new (w.alloc (.deferred (some []))) (.loop (L .ready none));rwa [aR] at this
 have hV0:V.heap[z]?=some (.deferred (some [])):=by
  rw[<-hV,<-hz];exact(Below.heap_alloc _ _ _ aa).trans (World.alloc_heap_new w _)
 have hVb:Below w.heap.size w V:=(by rw[<-hV];exact((bS _ w).alloc (aH _) _).alloc aa _);have hVI:I [] V:=(by rw[<-hV];exact hI.alloc _ (hI.alloc _ h0));have hgo:(Instr.enterLoop fn a.tmps ps assign body Fence.wide.round).run P w= .ok (z+1,[{target:= .collected z,args:= #[]}]) V:=by
  rw[<-hV,hL,<-hz];exact run_enterLoop_outer _ _ _ _ _
 rw[hz] at hI hIx hAx hassign hbody hdone hstop hn₀;clear hV h0;refine⟨z+1,_,V,{target:= .fn (.func gf) lb,args:= #[.func (.yield (z+1)) #[] #[]]},V,gf,#[.func (.yield (z+1)) #[] #[]]++lb,V,hgo,?_,fun _ _=>trivial,?_,fun h=>aq,?_⟩
 ·simp only[resolve,hg];simp[go_sem]
 ·simp[invoke,go_sem,eg]
 have hend:∀(jump:Option Code) (X:World),X.heap[z+1]?=some (.loop {L .ready none with state:= .busy})->(Instr.endRound (z+1) jump).run P X= .ok (.bool jump.isNone) (X.putObj (z+1) (.loop (L (if jump.isNone then .ready else .done) jump))):=fun jump X h=>by
  have:=run_endRound (P:=P) jump h;rw[hL] at this⊢;exact this
 have hout:∀(st:LoopState) (pe:Option Code) (X:World),st≠ .busy->X.heap[z+1]?=some (.loop (L st pe))->(Instr.endLoop (z+1)).run P X= .ok pe (X.putObj (z+1) (.loop {L st pe with state:= .exhausted})):=fun st pe X hst h=>by
  have:=run_endLoop (P:=P) h (by rw[hL];exact hst);rw[hL] at this⊢;exact this
 refine callsIn_wide.2 ((hseq (z+1) (fun pre W=>I pre W/\W.heap[z+1]?=some (.loop (L .ready none))/\W.heap[z]?=some (.deferred (some [])))
  (fun pre W=>∃c,Ix c pre W/\W.heap[z+1]?=some (.loop (L .done (some c)))/\W.heap[z]?=some (.deferred (some []))) V hVb
  (fun s A B row hs hg' hr=>⟨(ownFrom_more hI aE) s A B row hs.1 hg' hr,keep_row hg' (fun r e=>(hr r e).1) aE hs.2.1,keep_row hg' (fun r e=>(hr r e).1) aE hs.2.2⟩)
  (fun s A B row ⟨c,hs⟩ hg' hr=>⟨c,(ownFrom_more (hIx c) aE) s A B row hs.1 hg' hr,keep_row hg' (fun r e=>(hr r e).1) aE hs.2.1,keep_row hg' (fun r e=>(hr r e).1) aE hs.2.2⟩) ?_ ⟨hVI,hV1,hV0⟩).mono ?_)
 ·rintro k pre x W ⟨hi,hl,hk⟩ hsp;have hy:=run_yield (P:=P) (args:=encs x) hl (by rw[hL];exact hps x);rw[hL] at hy;refine⟨fn,_,assign,body,hy,roundIn_any (m:=m) (roundIn_of_wpIn hfn (hassign _ pre x W _ hi ?_))⟩;intro a' X hkX hbX hiX hax;have hlX:=hkX.at aE hl;have hkX0:=hkX.at (aH _) hk;have hzX:z+1<X.heap.size:=(aC.1 hlX).1;refine⟨_,run_beginRound hlX (by rw[hL]),?_⟩;obtain⟨Y,hY⟩:∃Y,X.putObj (z+1) (.loop {L .ready none with state:= .busy})=Y:=⟨_,rfl⟩
  have hlY:Y.heap[z+1]?=some (.loop {L .ready none with state:= .busy}):=(by rw[<-hY];exact World.putObj_heap_same hzX);have hkY:Y.heap[z]?=some (.deferred (some [])):=(by rw[<-hY];exact(World.putObj_heap_other aE).trans hkX0);have hiY:I pre Y:=(by rw[<-hY];exact hI.putObj _ hiX aE hlX rfl);have haY:Ax x a' Y:=(by rw[<-hY];exact(hAx x a').putObj (s:=()) _ hax aE hlX rfl);have hfY:KeepsUp V.heap.size W Y:=(by rw[<-hY];exact(hkX.later aE).trans (.obj X _ aE));have hbY:Below n₀ W Y:=(by rw[<-hY];exact hbX.trans (iL (bS _ X) (grownBy_putObj' X _ _) aE (fun r e=>by injection e with e;omega)));rw[hY];refine wpIn_mono (hbody _ pre x a' Y aE hiY haY hsp) ?_;have hfin:∀(jump:Option Code) (U:World),KeepsUp z Y U->(Instr.endRound (z+1) jump).run P U= .ok (.bool jump.isNone) (U.putObj (z+1) (.loop (L (if jump.isNone then .ready else .done) jump)))/\
    U.heap[z+1]?=some (.loop {L .ready none with state:= .busy})/\(U.putObj (z+1) (.loop (L (if jump.isNone then .ready else .done) jump))).heap[z+1]?=some (.loop (L (if jump.isNone then .ready else .done) jump))/\
    (U.putObj (z+1) (.loop (L (if jump.isNone then .ready else .done) jump))).heap[z]?=some (.deferred (some []))/\KeepsUp V.heap.size W (U.putObj (z+1) (.loop (L (if jump.isNone then .ready else .done) jump))):=fun jump U hU=>by
   have h1:=hU.at aE hlY;exact⟨hend jump U h1,h1,World.putObj_heap_same (aC.1 h1).1,(World.putObj_heap_other aE).trans (hU.at (aH _) hkY),(hfY.trans (hU.later aE)).trans (.obj U _ aE)⟩
  rintro e a3 U hp;cases e with
  |normal=>
   obtain⟨h1,h2,h3⟩:=hp;obtain⟨f1,f2,f3,f4,f5⟩:=hfin none U h1;exact⟨_,_,f1,f5,.inl ⟨rfl,⟨hI.putObj _ h3 aE f2 rfl,f3,f4⟩,(hbY.trans h2).trans (iL (bS _ U) (grownBy_putObj' U _ _) (by have:=(aC.1 f2).1;omega) (fun r e=>by injection e with e;omega))⟩⟩
  |ret=>
   obtain⟨h1,h2⟩:=hp;obtain⟨f1,f2,f3,f4,f5⟩:=hfin (some .ret) U h1;exact⟨_,_,f1,f5,.inr ⟨rfl,.ret,(hIx _).putObj _ h2 aE f2 rfl,f3,f4⟩⟩
  |exit id=>
   obtain⟨h1,h2⟩:=hp;obtain⟨f1,f2,f3,f4,f5⟩:=hfin (some (.exit id)) U h1;exact⟨_,_,f1,f5,.inr ⟨rfl,.exit id,(hIx _).putObj _ h2 aE f2 rfl,f3,f4⟩⟩
  |goto t=>
   obtain⟨h1,h2⟩:=hp;obtain⟨f1,f2,f3,f4,f5⟩:=hfin (some (.goto t)) U h1;exact⟨_,_,f1,f5,.inr ⟨rfl,.goto t,(hIx _).putObj _ h2 aE f2 rfl,f3,f4⟩⟩
  |panic ch=>exact hp.elim
  |outgrown=>exact hp.elim
 ·rintro e U ⟨⟨v,rfl⟩,(⟨xs,hS,hi,hl,hk⟩|⟨pre,hSp,c,hi,hl,hk⟩)⟩
  ·exact⟨none,_,hout _ _ U aa hl,hdone _ xs _ (aH _) hS (hI.putObj _ hi aE hl rfl) ((World.putObj_heap_other aE).trans hk)⟩
  ·exact⟨some c,_,hout _ _ U aa hl,hstop _ c pre _ (aH _) hSp ((hIx c).putObj _ hi aE hl rfl) ((World.putObj_heap_other aE).trans hk)⟩
theorem wpIn_rangeFunc_ownX{α:Type}{g:Operand}{ps:Array Tmp}{assign body:Code}{Q:Exit->Act->World->Prop}{a:Act}{w:World}{n m:Nat}
  {gf:Nat} {lb:Array Value} (hg:a.eval g= .func (.func gf) #[] lb) (eg:∀args w,(callFunc gf args).run P w= .ok (.enter gf args) w)
  {encs:α->Array Value} {n₀:Nat} {S Sp:List α->Prop} (hseq:SeqW P gf lb encs n₀ S Sp w) (hn₀:n₀<=w.heap.size) (hps:∀x,(encs x).size=ps.size)
  (I:List α->World->Prop) (Ix:Code->List α->World->Prop) (hI:OwnFrom w.heap.size I) (hIx:∀c,OwnFrom w.heap.size (Ix c)) (h0:I [] w) (o:α->Obj) (ho:∀x,(o x).isCells=true) (f:α->Nat->Act)
  (hassign:∀(l:Nat) (pre:List α) (x:α) (W:World) (K:Act->World->Prop),I pre W->(∀z W',KeepsUp w.heap.size W W'->Below n₀ W W'->I pre W'->W'.heap[z]?=some (o x)->K (f x z) W')->
   assign.wpIn (Fence.wide.inRound l) m P (Exit.then K (fun _ _ _=>False)) {tmps:=(ps.zip (encs x)).foldl (fun t (p,v)=>t.setIfInBounds p v) a.tmps,defers:=[]} W)
  (hbody:∀(l:Nat) (pre:List α) (x:α) (z:Nat) (W:World),w.heap.size<=l->I pre W->W.heap[z]?=some (o x)->Sp (pre++[x])->body.wpIn (Fence.wide.inRound l) m P (postW w.heap.size n₀ I Ix (pre++[x]) W) (f x z) W)
  (hdone:∀(D:Nat) (xs:List α) (W:World),w.heap.size<=D->S xs->I xs W->W.heap[D]?=some (.deferred (some []))->Q .normal {a with defers:={target:= .collected D,args:= #[]}::a.defers} W)
  (hstop:∀(D:Nat) (c:Code) (pre:List α) (W:World),w.heap.size<=D->Sp pre->Ix c pre W->W.heap[D]?=some (.deferred (some []))->c.wpIn Fence.wide n P Q {a with defers:={target:= .collected D,args:= #[]}::a.defers} W):
  (Code.rangeFunc g ps assign body).wpIn Fence.wide n P Q a w:=
 wpIn_rangeFunc_ownW hg eg hseq hn₀ hps I Ix hI hIx h0 (fun x a' B=>∃z,B.heap[z]?=some (o x)/\a'=f x z)
  (fun x a' _ X Y row hs hg hr=>by
   obtain⟨z,h1,h2⟩:=hs;refine⟨z,(hg.block z (aC.1 h1).1 (fun e=>?_)).trans h1,h2⟩;obtain⟨-,o',h3,h4⟩:=hr z e.symm;rw[h1] at h3;cases h3;rw[ho] at h4;cases h4)
  (fun l pre x W K hi hK=>hassign l pre x W K hi fun z W' h1 h2 h3 h4=>hK _ W' h1 h2 h3 ⟨z,h4,rfl⟩)
  (fun l pre x a' W hl hi ⟨z,h1,h2⟩ hs=>by subst h2;exact hbody l pre x z W hl hi h1 hs) hdone hstop
end
end
end Go.Proofs.YtohlomdapelgeaaGreatDoor
