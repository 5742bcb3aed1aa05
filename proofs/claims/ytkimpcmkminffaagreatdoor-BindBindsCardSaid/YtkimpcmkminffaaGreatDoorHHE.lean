/- Texts beside the shared ones. -/
import Derived.Test.YtkimpcmkminffaaGreatDoorHX0
import Derived.Test.YtkimpcmkminffaaGreatDoorHHD
import Derived.Test.YtkimpcmkminffaaGreatDoorHHR
namespace Go.Proofs.YtkimpcmkminffaaGreatDoor
open Go.RowKit Go.Shelf
open _root_.And renaming intro->bT
open _root_.Array renaming getElem?_eq_some_iff->aC,replicate_succ->eX,replicate_zero->eU
open _root_.Go.RowKit.Below renaming grown->iL,refl->bS
open _root_.Go.Lib renaming hid->aB
open _root_.List renaming append_assoc->iK,append_toArray->fD,cons_append->bE,ext_getElem->kX,length_append->bD,length_cons->aX,length_nil->bL,mem_of_getElem?->dJ,nil_append->cB,push_toArray->gH,range->iU,size_toArray->gG
open _root_.Nat renaming le_refl->aH,le_trans->jH,zero_le->dL
open _root_.Go.Oper renaming semAt_some->nC
open _root_.Option renaming getD_some->oQ
open _root_.Go.World renaming ownsRow_nil->d2l,size_alloc->aR
set_option maxRecDepth 100000
set_option maxHeartbeats 8000000
section
attribute [local go_sem] nC
theorem row_not{A:World}{b:Nat}{t:TypeId}{u:Value}(h:Boxed A b t u){row:Option Nat}(hr:∀r,row=some r->∃o:Obj,A.heap[r]?=some o/\o.isCells=false):some b≠row:=fun e=>by
 obtain⟨o,ho,hc⟩:=hr b e.symm;rw[show A.heap[b]?=some (.cells #[u] t (0,0)) from h] at ho;cases ho;cases hc
theorem box_bl{A B:World}{b:Nat}{t:TypeId}{u:Value}(h:Boxed A b t u)(hb:Bl A B):Boxed B b t u:=(hb.block _ h.lt).trans h
abbrev plF(N:Nat):Value:= .func (.func 38) #[] #[.pointer (some ⟨N+1,0,none⟩),.pointer (some ⟨N+2,0,none⟩)]
structure PlI(N:Nat)(acc:List Int)(A:World):Prop where
 l:∃v,Boxed A (N+1) 53 v/\OwnI A (N+3) v acc
 f:Boxed A (N+2) 82 (plF N)
theorem PlI.size{N:Nat}{acc:List Int}{A:World}(h:PlI N acc A):N+3<=A.heap.size:=h.f.lt
theorem PlI.bl{N:Nat}{acc:List Int}{A B:World}(h:PlI N acc A)(hb:Bl A B):PlI N acc B:=by
 obtain⟨⟨v,h1,h2⟩,h3⟩:=h;exact⟨⟨v,box_bl h1 hb,h2.bl hb⟩,box_bl h3 hb⟩
theorem PlI.kept{N:Nat}{acc:List Int}{A B:World}(h:PlI N acc A){row:Option Nat}(hg:A.grownBy B row)(hr:∀r,row=some r->∃o:Obj,A.heap[r]?=some o/\o.isCells=false):PlI N acc B:=by
 obtain⟨⟨v,h1,h2⟩,h3⟩:=h;exact⟨⟨v,h1.kept hg (row_not h1 hr),row_keeps h2 hg hr⟩,h3.kept hg (row_not h3 hr)⟩
def PlP(N:Nat)(acc ys:List Int)(A:World)(e:Ending)(B:World):Prop:=(∃u,e= .returned u)/\PlI N (acc++ys) B/\Below N A B/\KeepsOthers A B
theorem pl_leave{A:World}{D:Nat}{a:Act}{R:Ending->World->Prop}(hd:a.defers=[{target:= .collected D,args:= #[]}])(hK:A.heap[D]?=some (.deferred (some [])))(h:R (.returned (.tuple #[])) (A.putObj D (.deferred none))):
  bodyPostM Fence.wide 5 Tryz.prog Tryz.f38 R .normal a A:=by
 obtain⟨tm,df⟩:=a;simp only at hd;subst hd;refine⟨by simp,.inl ⟨_,_,rfl,run_takeDeferred hK,?_⟩⟩;exact⟨.tuple #[],by simp[results,Tryz.results38,go_sem],h⟩
theorem fnInfo1:(Tryz.prog.info? 82).map (·.size)=some 1:=by kernel_rfl
theorem slInt1:(Tryz.prog.info? 53).map (·.size)=some 1:=by kernel_rfl
theorem bPlaces1_col{N:Nat}{acc:List Int}(hacc:acc.length<=990000)(A:World)(hP:PlI N acc A)(t v1 v2 p o:Int)(v3 n:List UInt8)(a:Option Addr)(m cap:Nat):
  Calls Tryz.prog 38 #[BdV 2 t (v1,v2,v3) p o n (.slice a m cap),.pointer (some ⟨N+1,0,none⟩),.pointer (some ⟨N+2,0,none⟩)] A (PlP N acc [p] A):=by
 have hsz:=hP.size;obtain⟨⟨v,h1,h2⟩,h3⟩:=hP;have hb1:Bl A ((A.alloc (.cells (cellsB 2 t v1 v2 v3 p o n (.slice a m cap)) 30)).alloc (.cells #[.int .i64 p] 3)):=((Bl.refl A).alloc _).alloc _;have c0:=(h1.alloc (.cells (cellsB 2 t v1 v2 v3 p o n (.slice a m cap)) 30)).cell;have H1:=aB (box_bl h1 hb1);have H2:=aB (h2.bl hb1);have H3:=aB (box_bl h3 hb1);have HI:=aB (ints_one (W:=(A.alloc (.cells (cellsB 2 t v1 v2 v3 p o n (.slice a m cap)) 30)).alloc (.cells #[.int .i64 p] 3)) (p:=p) (T:=3) (g:=A.heap.size+1) (aV _ _ (by simp)));have HB1:=aB hb1;clear h1 h2 h3 hb1;go_enter Tryz.func38,Tryz.ntmps38;go_wp2_with (at_builtin;refine append_ints rfl (.tmp 8) (.tmp 11) rfl (N+3) v acc rfl H2.o [p] rfl HI.o (by simp;omega) (by simp;omega) ?_)
 intro v' w2 hown2 hg2 hat;obtain⟨g2,cap2,rfl⟩:=own_more (show w2.ownsRow (N+3) 3 1 v' (acc.length+1) _ from by
  have h:=hown2;unfold OwnI at h;rw[bD] at h;exact h)
 have hlow:=H2.o.lt;have hO:=row_others H2.o hg2;have hx:w2.heap[N+1]?=some (.cells #[v] 53 (0,0)):=(hg2.block _ (by simp;omega) (fun e=>by have:=(hlow _ e.symm).1;omega)).trans H1.o;have hf:w2.heap[N+2]?=some (.cells #[plF N] 82 (0,0)):=(hg2.block _ (by simp;omega) (fun e=>by have:=(hlow _ e.symm).1;omega)).trans H3.o;have hbw:Below N A w2:=iL (HB1.o.mono (by omega)) hg2 (by simp;omega) (fun i hi=>by have:=(hlow i hi).1;omega);have HW:=aB (bT hown2 (bT hf (bT hbw ((KeepsOthers.of_bl HB1.o).trans hO))));have HX:=aB hx;clear hown2 hg2 hat hlow hO hx hf hbw H1 H2 H3 HI c0;go_wp2_with (refine bA (g:=N+1) (i:=0) rfl rfl rfl rfl [.slice (some ⟨g2,0,none⟩) (acc.length+1) cap2] HX.o rfl rfl slInt1 rfl ?_)
 intro w3 hB3 hX3;go_wp2;refine bodyPost_ret (results_none rfl _ _ _) rfl ⟨⟨_,rfl⟩,⟨⟨_,hX3,row_but HW.o.1 hB3 (by omega)⟩,(hB3.same _ (by omega)).trans HW.o.2.1⟩,iL HW.o.2.2.1 hB3.grown (by have:=HW.o.2.2.1.size;omega) (fun k e=>by injection e with e;omega),HW.o.2.2.2.trans (but_others hB3 HX.o)⟩
theorem bPlaces1_node{N n:Nat}(hn:n+1<=90)(x:Bd)(hx:partsD x<=n+1)(hk:x.k≠2)(W0:World)(hW0:W0.heap.size=N)(v:Value)(hv:ReadsD W0 x v)
  (IH0:∀(y:Bd),partsD y<=n->∀(acc:List Int),acc.length+10000 * n<=990000->∀(A:World) (u:Value),ReadsD W0 y u->Below N W0 A->PlI N acc A->Calls Tryz.prog 38 #[u,.pointer (some ⟨N+1,0,none⟩),.pointer (some ⟨N+2,0,none⟩)] A (PlP N acc (placesD y) A))
  (acc:List Int) (hacc:acc.length+10000 * (n+1)<=990000) (A:World) (hA:Below N W0 A) (hP:PlI N acc A):
  Calls Tryz.prog 38 #[v,.pointer (some ⟨N+1,0,none⟩),.pointer (some ⟨N+2,0,none⟩)] A (PlP N acc (placesD x) A):=by
 obtain⟨sv,rfl,hR⟩:=hv;obtain⟨zs,hzs,hE,hRq⟩:=bdsL_of hR;obtain⟨a,cap,rfl,-⟩:=id hE;have hlen0:zs.length=x.args.length:=(by rw[<-hzs];simp);have hpl:=partsD_len x;have HPX:Hid (placesD x=(iU zs.length).flatMap fun j:Nat=>placesD (zs[j]?.getD bdz).1):=by
  show _=_;obtain⟨k,t,v',p,o,nm,args⟩:=x;have hk':¬k=2:=hk
  replace hzs:zs.map (·.1)=args:=hzs
  simp only[placesD];rw[if_neg hk',placessD_flat,<-hzs,List.flatMap_map];have e:zs=(iU zs.length).map fun j:Nat=>zs[j]?.getD bdz:=by
   apply kX
   ·simp
   ·intro i h1 h2;simp[h1]
  conv=>lhs;rw[e]
  rw[List.flatMap_map]
 have IH:Hid (∀(j:Nat) (acc':List Int) (A':World),zs.length≠0->acc'.length+10000 * n<=990000->Below N W0 A'->PlI N acc' A'->Calls Tryz.prog 38 #[(zs[j]?.getD bdz).v,.pointer (some ⟨N+1,0,none⟩),.pointer (some ⟨N+2,0,none⟩)] A' (PlP N acc' (placesD (zs[j]?.getD bdz).1) A')):=fun j acc' A' hz ha hB hI=>by
  cases hq:zs[j]? with
  |none=>
   rw[Option.getD_none];exact IH0 zeroD (by show 1<=n;omega) acc' ha A' _ ⟨_,rfl,ReadsDL.nil _ _ _ _⟩ hB hI
  |some q=>
   rw[oQ];have hm:=dJ hq;have hma:q.1∈x.args:=(by rw[<-hzs];exact List.mem_map_of_mem hm);exact IH0 q.1 (by have:=partsD_arg hma;omega) acc' ha A' _ ⟨_,rfl,hRq q hm⟩ hB hI
 have HPN:Hid (∀j:Nat,(placesD (zs[j]?.getD bdz).1).length<=90):=fun j=>by
  cases hq:zs[j]? with
  |none=>
   rw[Option.getD_none];exact dL _
  |some q=>
   rw[oQ];have hma:q.1∈x.args:=(by rw[<-hzs];exact List.mem_map_of_mem (dJ hq));have h1:=partsD_arg hma;have h2:=placesD_len q.1;omega
 have hfew:zs.length<=90:=(by omega);obtain⟨k,t,⟨v1,v2,v3⟩,p,o,nm,args⟩:=x;have hk':¬k=2:=hk;have gk:(k==2)=false:=by simpa using hk'
 replace hlen0:zs.length=args.length:=hlen0
 simp only[Bd.k,Bd.t,Bd.v,Bd.p,Bd.o,Bd.n];rw[HPX.o];have HE:=aB (hE.below (by rw[hW0];exact hA));rw[hW0] at HE;have HFEW:=aB hfew;have hsz:=hP.size;have HP:=aB hP;have HA:=aB hA;have HACC:=aB hacc;have HX0:=aB (aN A (.cells (cellsB k t v1 v2 v3 p o nm (.slice a zs.length cap)) 30));have HB0:=aB ((Bl.refl A).alloc (.cells (cellsB k t v1 v2 v3 p o nm (.slice a zs.length cap)) 30));clear hR hRq hzs hE hlen0 hpl hx hk hk' IH0 hfew hP hA hacc HPX hW0;refine(callsIn_wide (n:=5)).1 ?_;refine callsIn_of_wp_marks Tryz.func38 rfl trivial ?_ rfl;simp only[Tryz.ntmps38,gG,aX,bL,Nat.reduceAdd,Nat.reduceSub,eX,eU,gH,fD,cB,bE]
 gi_wp2_with fail
 refine⟨trivial,?_⟩;refine(bdVals_in Fence.wide 4 trivial rfl _ _ _ _).mono ?_;rintro e w' ⟨rfl,rfl⟩
 gi_wp2_with fail
 have bN:=Boxed.new (A.alloc (.cells (cellsB k t v1 v2 v3 p o nm (.slice a zs.length cap)) 30)) 28 (.slice a zs.length cap);have hB1:Bl A ((A.alloc (.cells (cellsB k t v1 v2 v3 p o nm (.slice a zs.length cap)) 30)).alloc (.cells #[.slice a zs.length cap] 28)):=HB0.o.alloc _;have hsz1:((A.alloc (.cells (cellsB k t v1 v2 v3 p o nm (.slice a zs.length cap)) 30)).alloc (.cells #[.slice a zs.length cap] 28)).heap.size=A.heap.size+2:=(by simp);simp only[aR] at bN;obtain⟨W1,hW1⟩:∃W1,(A.alloc (.cells (cellsB k t v1 v2 v3 p o nm (.slice a zs.length cap)) 30)).alloc (.cells #[.slice a zs.length cap] 28)=W1:=⟨_,rfl⟩
 rw[hW1] at bN hB1 hsz1⊢;clear hW1;have HB1:=aB hB1;refine wpIn_rangeFunc_ownH rfl (by omega) (gf:=61) (lb:= #[.pointer (some ⟨A.heap.size+1,0,none⟩)]) rfl trivial (enters_of Tryz.func61 (by kernel_rfl) rfl)
  (bdVals_stops Fence.wide (5-1) trivial rfl (by omega) (A.heap.size+1) N _ zs (by have:=HFEW.o;omega) W1 (by omega) (by omega) bN.cell (HE.o.below (hB1.mono (by omega)))) belowK_t (belowK_b (by omega)) (bS _ _) (fun _=>rfl)
  (fun pre B=>PlI N (acc++pre.flatMap fun j:Nat=>placesD (zs[j]?.getD bdz).1) B/\Below N A B/\KeepsOthers A B) (fun _ _ _=>False)
  (fun s B C row hs hg hr=>⟨hs.1.kept hg (fun r e=>(hr r e).2),hs.2.1.grown hg (by have:=hs.1.size;omega) (fun r e=>by have:=(hr r e).1;omega),⟨jH hs.2.2.size hg.size,fun i o hi ho=>(hg.block i (aC.1 (hs.2.2.same i o hi ho)).1 (fun e=>by have:=(hr i e.symm).1;have:=(aC.1 hi).1;omega)).trans (hs.2.2.same i o hi ho)⟩⟩)
  (fun _ _ _ _ _ hs _ _=>hs)
  ⟨by simpa using HP.o.bl hB1,hB1.mono (by omega),KeepsOthers.of_bl hB1⟩
  (fun(j:Nat) a' B=>∃Bx,B.heap[Bx]?=some (.cells (cells9 (zs[j]?.getD bdz).1 (zs[j]?.getD bdz).sv).toArray 30 (0,0))/\
   a'={tmps:= #[BdV k t (v1,v2,v3) p o nm (.slice a zs.length cap),.pointer (some ⟨N+1,0,none⟩),.pointer (some ⟨N+2,0,none⟩),.pointer (some ⟨A.heap.size,0,none⟩),.pointer (some ⟨Bx,0,none⟩),.pointer (some ⟨A.heap.size,0,none⟩),.int .i64 k,.bool false,undef,undef,undef,undef,undef,.pointer (some ⟨A.heap.size,8,none⟩),.slice a zs.length cap,.func (.func 61) #[] #[.pointer (some ⟨A.heap.size+1,0,none⟩)],(zs[j]?.getD bdz).v,undef,undef,undef],defers:=[]})
  (fun j a' _ B C row hs hg hr=>by
   obtain⟨Bx,h1,h2⟩:=hs;refine⟨Bx,(hg.block Bx (aC.1 h1).1 (fun e=>?_)).trans h1,h2⟩;obtain⟨-,o,ho,hc⟩:=hr Bx e.symm;rw[h1] at ho;cases ho;cases hc)
  ?assign ?body ?done ?stop
 case assign=>
  rintro l pre j B K hI hK;have hIz:=hI.1.size
  revert hK
  generalize zs[j]?.getD bdz=q;obtain⟨⟨xk,xt,⟨x1,x2,x3⟩,xp,xo,xn,xa⟩,ad,ca⟩:=q;dsimp only[BdA.v,BdA.sv,Bd.k,Bd.t,Bd.v,Bd.p,Bd.o,Bd.n,Bd.args];intro hK
  gi_wp2
  exact hK _ _ ((KeepsOthers.alloc _ _).from _) ((bS _ B).alloc (by omega) _) ⟨hI.1.bl ((Bl.refl B).alloc _),hI.2.1.alloc (by omega) _,hI.2.2.trans (KeepsOthers.alloc _ _)⟩ ⟨B.heap.size,aN B _,rfl⟩
 case body=>
  rintro l pre j a' B hl ⟨r,hr⟩ hI ⟨Bx,hX,rfl⟩ hpl;have hlf:(pre.flatMap fun j:Nat=>placesD (zs[j]?.getD bdz).1).length<=pre.length * 90:=by
   clear hI hpl
   induction pre with
   |nil=>simp
   |cons i s ih=>
    have:=HPN.o i;rw[List.flatMap_cons,bD,aX];omega
  have hsn:(pre++[j]).flatMap (fun j:Nat=>placesD (zs[j]?.getD bdz).1)=pre.flatMap (fun j:Nat=>placesD (zs[j]?.getD bdz).1)++placesD (zs[j]?.getD bdz).1:=(by simp);have HC:=aB (IH.o j (acc++pre.flatMap fun j:Nat=>placesD (zs[j]?.getD bdz).1) B (by omega) (by rw[bD];have:=HACC.o;have:=HFEW.o;omega) (HA.o.trans hI.2.1) hI.1);have HSN:=aB hsn;have cf:=hI.1.f.cell;have HI:=aB hI;clear hI hsn hlf hr;generalize zs[j]?.getD bdz=q at *;obtain⟨⟨xk,xt,⟨x1,x2,x3⟩,xp,xo,xn,xa⟩,ad,ca⟩:=q;dsimp only[BdA.v,BdA.sv,Bd.k,Bd.t,Bd.v,Bd.p,Bd.o,Bd.n,Bd.args,cells9] at hX HC⊢;obtain⟨e0,e1,e2,e3,e4,e5,e6,e7,e8⟩:=nine hX;clear hX
  gi_wp2_with fail
  refine⟨trivial,?_⟩;refine(CallsIn.inRound l (callsIn_wide.2 HC.o)).mono ?_;rintro e C ⟨⟨u,rfl⟩,hC1,hC2,hC3⟩;have HH:=aB (bT hC1 (bT hC2 hC3));clear hC1 hC2 hC3 e0 e1 e2 e3 e4 e5 e6 e7 e8 cf
  gi_wp2
  exact⟨HH.o.2.2.from _,HH.o.2.1,by rw[HSN.o,<-iK];exact HH.o.1,HI.o.2.1.trans HH.o.2.1,HI.o.2.2.trans HH.o.2.2⟩
 case done=>
  rintro D ys B hD rfl hI hK;have hgp:=grownBy_putObj' B D (.deferred none);have HH:=aB (bT hI hK);have hDz:N<=D:=(by omega);clear hI hK
  gi_wp2
  exact pl_leave rfl HH.o.2 ⟨⟨_,rfl⟩,HH.o.1.1.kept hgp (fun r e=>by injection e with e;subst e;exact⟨_,HH.o.2,rfl⟩),HH.o.1.2.1.grown hgp (by have:=HH.o.1.1.size;omega) (fun r e=>by injection e with e;omega),⟨jH HH.o.1.2.2.size hgp.size,fun i o hi ho=>(hgp.block i (aC.1 (HH.o.1.2.2.same i o hi ho)).1 (fun e=>by injection e with e;have:=(aC.1 hi).1;omega)).trans (HH.o.1.2.2.same i o hi ho)⟩⟩
 case stop=>
  rintro D c pre B _ _ h _;exact h.elim
theorem bPlaces1_any{N:Nat}(W0:World)(hW0:W0.heap.size=N):∀(n:Nat),n<=90->∀(x:Bd),partsD x<=n->∀(acc:List Int),acc.length+10000 * n<=990000->∀(A:World) (v:Value),ReadsD W0 x v->Below N W0 A->PlI N acc A->Calls Tryz.prog 38 #[v,.pointer (some ⟨N+1,0,none⟩),.pointer (some ⟨N+2,0,none⟩)] A (PlP N acc (placesD x) A)
 |0,_,x,h,_,_,_,_,_,_,_=>by have:=partsD_pos x;omega
 |n+1,hn,x,h,acc,ha,A,v,hv,hA,hP=>by
  by_cases hk:x.k=2
  ·obtain⟨a,cap,rfl⟩:=hv.args;obtain⟨k,t,⟨v1,v2,v3⟩,p,o,nm,args⟩:=x;obtain rfl:k=2:=hk;have e:placesD (.mk 2 t (v1,v2,v3) p o nm args)=[p]:=(by simp only[placesD,if_true]);rw[e];exact bPlaces1_col (by omega) A hP t v1 v2 p o v3 nm a args.length cap
  ·exact bPlaces1_node hn x h hk W0 hW0 v hv (bPlaces1_any W0 hW0 n (by omega)) acc ha A hA hP
theorem bPlaces_any(x:Bd)(hx:partsD x<=90)(W:World)(v:Value)(hv:ReadsD W x v):
  Calls Tryz.prog 15 #[v] W fun e w'=>(∃sv,e= .returned (.func (.func 40) #[] #[.pointer (some ⟨W.heap.size+1,0,none⟩)])/\Boxed w' (W.heap.size+1) 53 sv/\Ints w'.heap.size w' sv (placesD x))/\Bl W w':=by
 have HP:Hid (∀(A:World) (u:Value),ReadsD W x u->Bl W A->PlI W.heap.size [] A->Calls Tryz.prog 38 #[u,.pointer (some ⟨W.heap.size+1,0,none⟩),.pointer (some ⟨W.heap.size+2,0,none⟩)] A (PlP W.heap.size [] (placesD x) A)):=fun A u hu hA hP=>bPlaces1_any W rfl 90 (aH _) x hx [] (by simp) A u hu hA hP;have hvv:=hv;obtain⟨a,cap,rfl⟩:=hv.args;have HCL:=aB (fun A=>HP.o A _ hvv);clear hv hvv HP hx;generalize placesD x=ys at *;obtain⟨k,t,⟨v1,v2,v3⟩,p,o,nm,args⟩:=x;simp only[Bd.k,Bd.t,Bd.v,Bd.p,Bd.o,Bd.n,Bd.args] at *;generalize args.length=m at *;have HX0:=aB (keep_b (keep_b (aN W (.cells (cellsB k t v1 v2 v3 p o nm (.slice a m cap)) 30)) ((Bl.refl _).alloc (.cells #[.slice none 0 0] 53))) ((Bl.refl _).alloc (.cells #[.nilFunc] 82)));have HL0:=aB (keep_b (aV (W.alloc (.cells (cellsB k t v1 v2 v3 p o nm (.slice a m cap)) 30)) (.cells #[.slice none 0 0] 53) (k:=W.heap.size+1) (by simp)) ((Bl.refl _).alloc (.cells #[.nilFunc] 82)));have hen:∀(args:Array Value) (w:World),(callFunc 38 args).run Tryz.prog w= .ok (.enter 38 args) w:=fun args w=>(by simp[go_sem]);go_enter Tryz.func15,Tryz.ntmps15;go_wp2_with (refine bA (g:=W.heap.size+1+1) (i:=0) rfl rfl rfl rfl [plF W.heap.size] (aV _ _ (by simp)) rfl rfl fnInfo1 rfl ?_)
 intro w0 hB0 hX0;have HB:=aB (hB0.bl ((((Bl.refl W).alloc (.cells (cellsB k t v1 v2 v3 p o nm (.slice a m cap)) 30)).alloc (.cells #[.slice none 0 0] 53)).alloc (.cells #[.nilFunc] 82)) (by omega));have HI:=aB (show PlI W.heap.size [] w0 from⟨⟨_,(hB0.same _ (by omega)).trans HL0.o,d2l _ _ _ _⟩,hX0⟩);obtain⟨e0,e1,e2,e3,e4,e5,e6,e7,e8⟩:=nine ((hB0.same W.heap.size (by omega)).trans HX0.o);have cf:=HI.o.f.cell;clear HX0 HL0 hB0 hX0;go_wp2_with fail;refine(HCL.o _ HB.o HI.o).mono ?_;rintro e w1 ⟨⟨u,rfl⟩,hP1,hB1,-⟩;have HR:=aB (show(∃sv,Boxed w1 (W.heap.size+1) 53 sv/\Ints w1.heap.size w1 sv ys)/\Bl W w1 from by
  obtain⟨⟨v',h1,h2⟩,-⟩:=hP1;exact⟨⟨v',h1,by have:=h2.ints;simpa using this⟩,HB.o.trans hB1⟩)
 clear hP1 hB1 e0 e1 e2 e3 e4 e5 e6 e7 e8 cf;go_wp2;go_ret;obtain⟨⟨sv,h1,h2⟩,h3⟩:=HR.o;exact⟨⟨sv,rfl,h1,h2⟩,h3⟩
set_option maxRecDepth 100000 in
theorem plSeq_in(F:Fence)(n:Nat)(h7:F.fn 40)(hro:F.round=none)(hn:1<=n)(l Bs n₀ b off len cap:Nat)(zs:List Int)(hreach:len * 8<=140737488351232)(hb:b<n₀)(J Jx:List Int->World->Prop)
  (hY:∀pre x W,J pre W->pre.length<len->YieldAt F (n-1) Tryz.prog l #[.int .i64 x] W fun e W'=>
   (e= .returned (.bool true)/\J (pre++[x]) W'/\Below n₀ W W')\/(e= .returned (.bool false)/\Jx (pre++[x]) W'))
  (W:World) (hBs:W.cell? ⟨Bs,0,none⟩=some (.slice (some ⟨b,off,none⟩) len cap)) (hc:∀j,j<len->W.cell? ⟨b,off+j,none⟩=some (.int .i64 (zs[j]?.getD 0))) (h0:J [] W):
  CallsIn F n Tryz.prog 40 #[.func (.yield l) #[] #[],.pointer (some ⟨Bs,0,none⟩)] W fun e W'=>(∃v,e= .returned v)/\
   ((∃ys,ys=upto (fun j=>zs[j]?.getD 0) len/\J ys W')\/(∃pre,(∃k,k<=len/\pre=upto (fun j=>zs[j]?.getD 0) k)/\Jx pre W')):=by
 refine callsIn_of_wp Tryz.func40 rfl h7 ?_ hro;simp only[Tryz.ntmps40,gG,aX,bL,Nat.reduceAdd,Nat.reduceSub,eX,eU,gH,fD,cB,bE]
 gi_wp2
 refine wpIn_scope (wpIn_seq (wpIn_label ?_))
 gi_wp2
 gi_loopw [7] (fun i wr=>∃k:Nat,k<=len/\i= .int .i64 k/\J (upto (fun j=>zs[j]?.getD 0) k) wr/\Below n₀ W wr)
  (fun i _=>len-(intOf i).toNat)
 case atStart=>exact⟨0,dL _,rfl,h0,bS _ _⟩
 case round=>
  obtain⟨k,hk,rfl,hJs,hnx⟩:=hrel;have hcx:k<len->wr.cell? ⟨b,off+k,none⟩=some (.int .i64 (zs[k]?.getD 0)):=fun h=>(hnx.cell (p:=⟨b,off+k,none⟩) hb).trans (hc k h);by_cases hlt:k<len
  ·obtain⟨fn,tmps,assign,body,hy,hR⟩:=hY _ (zs[k]?.getD 0) wr hJs (by rw[zN];exact hlt);have hcx':=hcx hlt
   gi_wp2
   refine hR.mono ?_;rintro e W3 (⟨rfl,hJ3,hk3⟩|⟨rfl,hJx3⟩)
   ·gi_wp2
    go_roundw
    case rel=>exact⟨k+1,by omega,by simp,by rw[wH];exact hJ3,hnx.trans hk3⟩
    case measure=>simp[intOf];omega
   ·gi_wp2
    simp only[Exit.noGoto];go_end0;exact⟨⟨_,rfl⟩,.inr ⟨_,⟨k+1,by omega,(wH _ _).symm⟩,hJx3⟩⟩
  ·obtain rfl:k=len:=by omega
   gi_wp2
   simp only[Exit.noGoto];go_end0;exact⟨⟨_,rfl⟩,.inl ⟨_,rfl,hJs⟩⟩
set_option maxRecDepth 100000 in
theorem plSeq_nil(F:Fence)(n:Nat)(h7:F.fn 40)(hro:F.round=none)(l Bs:Nat)(J:List Int->World->Prop)(W:World)(hBs:W.cell? ⟨Bs,0,none⟩=some (.slice none 0 0))(h0:J [] W):
  CallsIn F n Tryz.prog 40 #[.func (.yield l) #[] #[],.pointer (some ⟨Bs,0,none⟩)] W fun e W'=>(∃v,e= .returned v)/\J [] W':=by
 refine callsIn_of_wp Tryz.func40 rfl h7 ?_ hro;simp only[Tryz.ntmps40,gG,aX,bL,Nat.reduceAdd,Nat.reduceSub,eX,eU,gH,fD,cB,bE]
 gi_wp2
 refine wpIn_scope (wpIn_seq (wpIn_label ?_))
 gi_wp2
 gi_loopw [7] (fun i wr=>i= .int .i64 0/\J [] wr) (fun _ _=>0)
 case atStart=>exact⟨rfl,h0⟩
 case round=>
  obtain⟨rfl,hJs⟩:=hrel
  gi_wp2
  simp only[Exit.noGoto];go_end0;exact⟨⟨_,rfl⟩,hJs⟩
theorem plSeq_stops(F:Fence)(n:Nat)(h7:F.fn 40)(hro:F.round=none)(hn:1<=n)(Bs n₀:Nat)(sv:Value)(zs:List Int)(hreach:zs.length * 8<=140737488351232)(w:World)(hBs:Bs<w.heap.size)(hn₀:n₀<=w.heap.size)
  (hc:w.cell? ⟨Bs,0,none⟩=some sv) (hI:Ints n₀ w sv zs):
  SeqStopsK F n Tryz.prog 40 #[.pointer (some ⟨Bs,0,none⟩)] (fun x:Int=> #[Value.int .i64 x]) (Below n₀) (fun ys=>ys=zs) (fun pre=>pre<+:zs) zs.length w:=fun l J Jx W hW _ _ hY h0=>by
 have hc':=(hW.cell (p:=⟨Bs,0,none⟩) hBs).trans hc;rcases hI.below (hW.mono hn₀) with⟨rfl,rfl⟩|⟨b,off,cap,rfl,hb,hcs⟩
 ·exact(plSeq_nil F n h7 hro l Bs J W hc' h0).mono fun e W' ⟨he,hj⟩=>⟨he,.inl ⟨_,rfl,hj⟩⟩
 ·refine(plSeq_in F n h7 hro hn l Bs n₀ b off zs.length cap zs hreach hb J Jx hY W hc' hcs h0).mono ?_;rintro e W' ⟨he,⟨ys,rfl,hj⟩|⟨pre,⟨k,hk,rfl⟩,hj⟩⟩
  ·exact⟨he,.inl ⟨_,c7l zs,hj⟩⟩
  ·exact⟨he,.inr ⟨_,by rw[c5q zs hk];exact List.take_prefix _ _,hj⟩⟩
end
end Go.Proofs.YtkimpcmkminffaaGreatDoor
