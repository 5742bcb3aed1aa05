/- Texts beside the shared ones. -/
import Derived.Test.YtohlomdapelgeaaGreatDoorWX0
import Derived.Test.YtohlomdapelgeaaGreatDoorWWD
import Derived.Test.YtohlomdapelgeaaGreatDoorWWC
import Derived.Test.YtohlomdapelgeaaGreatDoorWHR
namespace Go.Proofs.YtohlomdapelgeaaGreatDoor
open _root_.Go.Proofs.Tryz
open Go.RowKit Go.Shelf
open _root_.And renaming intro->bT
open _root_.Array renaming replicate_succ->eX,replicate_zero->eU
open _root_.Go.RowKit.Below renaming refl->bS
open _root_.Go.Lib renaming hid->aB
open _root_.List renaming append_toArray->fD,cons_append->bE,getElem?_eq_getElem->aP,getElem?_eq_some_iff->aO,length_cons->aX,length_nil->bL,nil_append->cB,push_toArray->gH,range->iU,size_toArray->gG
open _root_.Nat renaming le_refl->aH,le_trans->jH,zero_le->dL
open _root_.Go.Oper renaming semAt_some->nC
open _root_.Option renaming getD_some->oQ
open _root_.Go.World renaming size_alloc->aR
set_option maxRecDepth 100000
set_option maxHeartbeats 4000000
section
attribute [local go_sem] nC
abbrev StA:=St×Option Addr×Nat
abbrev StA.sv(q:StA):Value:= .slice q.2.1 q.1.x.args.length q.2.2
abbrev StA.cs(q:StA):List Value:=S q.1.n::qD q.1.x q.sv
def stz:StA:=(⟨[],zeroE⟩,none,0)
def StsL(n₀:Nat)(W:World)(sv:Value)(zs:List StA):Prop:=∃a cap,sv= .slice a zs.length cap/\∀j,j<zs.length->∃b off,a=some ⟨b,off,none⟩/\b<n₀/\d2k W b (off+j * 9) (zs[j]?.getD stz).cs
theorem StsL.below{n₀:Nat}{A B:World}(h:Below n₀ A B){sv:Value}{zs:List StA}(k:StsL n₀ A sv zs):StsL n₀ B sv zs:=by
 obtain⟨a,cap,e,hc⟩:=k;refine⟨a,cap,e,fun j hj=>?_⟩;obtain⟨b,off,e2,hb,h8⟩:=hc j hj;exact⟨b,off,e2,hb,h8.keep (h.block b hb)⟩
theorem stsL_of{p:Nat->Prop}{W:World}{sv:Value}{l:List St}(h:RowsG gSt p W sv l):∃zs:List StA,zs.map (·.1)=l/\StsL W.heap.size W sv zs/\∀q∈zs,bG p W q.sv q.1.x.args:=by
 obtain⟨a,cap,rfl,hc⟩:=h.shape;obtain⟨zs,hz,hq⟩:=pick_all (P:=fun j (x:St) (c:Option Addr×Nat)=>(∃b off,a=some ⟨b,off,none⟩/\b<W.heap.size/\d2k W b (off+j * 9) (S x.n::qD x.x (.slice c.1 x.x.args.length c.2)))/\bG p W (.slice c.1 x.x.args.length c.2) x.x.args) l fun j x hx=>by
  obtain⟨hj,rfl⟩:=aO.1 hx;obtain⟨b,off,cs,ea,-,hbl,hcs,s,rfl,hr⟩:=hc j hj;obtain⟨sa,sc,rfl,-⟩:=id hr.shape;exact⟨(sa,sc),⟨b,off,ea,hbl,hcs⟩,hr⟩
 refine⟨zs,hz,⟨a,cap,by rw[<-hz];simp,fun j hj=>?_⟩,fun q hq'=>?_⟩
 ·have hx:zs[j]?=some zs[j]:=aP hj;rw[hx,oQ];exact(hq j _ hx).1
 ·obtain⟨j,hj⟩:=List.getElem?_of_mem hq';exact(hq j q hj).2
theorem nineSt{W:World}{b o:Nat}{q:StA}(h:d2k W b o q.cs):
  W.cell? ⟨b,o,none⟩=some (S q.1.n)/\W.cell? ⟨b,o+1,none⟩=some (.int .i64 q.1.x.k)/\W.cell? ⟨b,o+2,none⟩=some (.int .i64 q.1.x.v.1)/\W.cell? ⟨b,o+3,none⟩=some (.int .i64 q.1.x.v.2.1)/\W.cell? ⟨b,o+4,none⟩=some (S q.1.x.v.2.2)/\
  W.cell? ⟨b,o+5,none⟩=some (S q.1.x.t)/\W.cell? ⟨b,o+6,none⟩=some (S q.1.x.n)/\W.cell? ⟨b,o+7,none⟩=some (.int .i64 q.1.x.o)/\W.cell? ⟨b,o+8,none⟩=some q.sv:=
 ⟨h 0 _ rfl,h 1 _ rfl,h 2 _ rfl,h 3 _ rfl,h 4 _ rfl,h 5 _ rfl,h 6 _ rfl,h 7 _ rfl,h 8 _ rfl⟩
theorem nineH{W:World}{b:Nat}{q:StA}(h:W.heap[b]?=some (.cells q.cs.toArray 63 (0,0))):
  W.cell? ⟨b,0,none⟩=some (S q.1.n)/\W.cell? ⟨b,1,none⟩=some (.int .i64 q.1.x.k)/\W.cell? ⟨b,2,none⟩=some (.int .i64 q.1.x.v.1)/\W.cell? ⟨b,3,none⟩=some (.int .i64 q.1.x.v.2.1)/\W.cell? ⟨b,4,none⟩=some (S q.1.x.v.2.2)/\
  W.cell? ⟨b,5,none⟩=some (S q.1.x.t)/\W.cell? ⟨b,6,none⟩=some (S q.1.x.n)/\W.cell? ⟨b,7,none⟩=some (.int .i64 q.1.x.o)/\W.cell? ⟨b,8,none⟩=some q.sv:=
 ⟨cell_of h rfl,cell_of h rfl,cell_of h rfl,cell_of h rfl,cell_of h rfl,cell_of h rfl,cell_of h rfl,cell_of h rfl,cell_of h rfl⟩
abbrev AllTo(m:Nat)(ys:List Nat):Prop:=ys=iU m
abbrev SomeTo(m:Nat)(ys:List Nat):Prop:=∃k,k<=m/\ys=iU k
theorem stVals1_in(l Bs n₀ b off cap B0:Nat)(zs:List StA)(hreach:zs.length<=1000000)(hb:0<zs.length->b<n₀)(J Jx:List Nat->World->Prop)(hJ:OwnFrom B0 J)
  (hY:∀m pre x W1,J pre W1->SomeTo zs.length (pre++[x])->YieldAt Fence.wide m Tryz.prog l #[.agg (zs[x]?.getD stz).cs.toArray] W1 fun e W'=>
   KeepsUp B0 W1 W'/\((e= .returned (.bool true)/\J (pre++[x]) W'/\Below n₀ W1 W')\/(e= .returned (.bool false)/\Jx (pre++[x]) W')))
  (W:World) (hn₀:n₀<=W.heap.size) (hBs:W.cell? ⟨Bs,0,none⟩=some (.slice (some ⟨b,off,none⟩) zs.length cap)) (hc:∀j,j<zs.length->d2k W b (off+j * 9) (zs[j]?.getD stz).cs) (h0:J [] W):
  Calls Tryz.prog 87 #[.func (.yield l) #[] #[],.pointer (some ⟨Bs,0,none⟩)] W fun e W'=>(∃v,e= .returned v)/\
   ((∃xs,AllTo zs.length xs/\J xs W')\/(∃pre,SomeTo zs.length pre/\Jx pre W')):=by
 refine(callsIn_wide (n:=5)).1 ?_;refine callsIn_of_wp func87 rfl trivial ?_ rfl;simp only[ntmps87,gG,aX,bL,Nat.reduceAdd,Nat.reduceSub,eX,eU,gH,fD,cB,bE]
 gi_wp2
 gi_loopw [7] (fun i wr=>∃k:Nat,k<=zs.length/\i= .int .i64 k/\J (iU k) wr/\Hid (Below n₀ W wr))
  (fun i _=>zs.length-(intOf i).toNat)
 case atStart=>exact⟨0,dL _,rfl,h0,bS _ _⟩
 case round=>
  obtain⟨k,hk,rfl,hJs,HN⟩:=hrel;by_cases hlt:k<zs.length
  ·have HY:=aB (fun o=>hY 4 _ k (wr.alloc o) (hJ.alloc o hJs) ⟨k+1,hlt,by rw[List.range_succ]⟩);have hzw:=HN.o.size;obtain⟨e0,e1,e2,e3,e4,e5,e6,e7,e8⟩:=nineSt ((hc k hlt).keep (HN.o.block b (hb aE)));generalize hz:zs[k]?.getD stz=z at *;have HZ:=aB hz;clear hz;obtain⟨⟨zn,⟨zk,⟨z1,z2,z3⟩,zt,zm,zo,za⟩⟩,ad,ca⟩:=z;simp only[Ex.k,Ex.v,Ex.t,Ex.n,Ex.o] at e0 e1 e2 e3 e4 e5 e6 e7;dsimp only[StA.sv,Ex.args] at e8;obtain⟨fn,tmps,assign,body,hy,hR⟩:=HY.o (.cells #[S zn,.int .i64 zk,.int .i64 z1,.int .i64 z2,S z3,S zt,S zm,.int .i64 zo,.slice ad za.length ca] 63);dsimp only[StA.cs,StA.sv,qD,Ex.k,Ex.v,Ex.t,Ex.n,Ex.o,Ex.args] at hy
   gi_wp2
   refine hR.mono ?_;rintro e W3 ⟨hkf,(⟨rfl,hJ3,hk3⟩|⟨rfl,hJx3⟩)⟩
   ·have HK3:=aB hk3;clear hk3
    gi_wp2
    go_roundw
    case rel=>exact⟨k+1,by omega,by simp,by rw[List.range_succ];exact hJ3,HN.o.trans (((bS _ wr).alloc aE _).trans HK3.o)⟩
    case measure=>simp[intOf];omega
   ·gi_wp2
    refine bodyPost_ret (results_none rfl _ _ _) rfl ?_;exact⟨⟨_,rfl⟩,.inr ⟨_,⟨k+1,by omega,by rw[List.range_succ]⟩,hJx3⟩⟩
  ·obtain rfl:k=zs.length:=by omega
   gi_wp2
   go_end0;exact⟨⟨_,rfl⟩,.inl ⟨_,rfl,hJs⟩⟩
theorem stVals1_nil(a:Option Addr)(cap:Nat)(l Bs:Nat)(J:List Nat->World->Prop)(W:World)(hBs:W.cell? ⟨Bs,0,none⟩=some (.slice a 0 cap))(h0:J [] W):
  Calls Tryz.prog 87 #[.func (.yield l) #[] #[],.pointer (some ⟨Bs,0,none⟩)] W fun e W'=>(∃v,e= .returned v)/\J [] W':=by
 refine(callsIn_wide (n:=5)).1 ?_;refine callsIn_of_wp func87 rfl trivial ?_ rfl;simp only[ntmps87,gG,aX,bL,Nat.reduceAdd,Nat.reduceSub,eX,eU,gH,fD,cB,bE]
 gi_wp2
 gi_loopw [7] (fun i wr=>i= .int .i64 0/\J [] wr) (fun _ _=>0)
 case atStart=>exact⟨rfl,h0⟩
 case round=>
  obtain⟨rfl,hJs⟩:=hrel
  gi_wp2
  go_end0;exact⟨⟨_,rfl⟩,hJs⟩
theorem stVals_any(a:Option Addr)(len cap:Nat)(w:World):
  Calls Tryz.prog 46 #[.slice a len cap] w fun e w'=>e= .returned (.func (.func 87) #[] #[.pointer (some ⟨w.heap.size,0,none⟩)])/\w'=w.alloc (.cells #[.slice a len cap] 43):=by
 go_enter func46,ntmps46;go_wp2;go_ret;exact⟨rfl,rfl⟩
theorem stVals_seq(Bs n₀:Nat)(sv:Value)(zs:List StA)(hreach:zs.length<=1000000)(w:World)(hBs:Bs<w.heap.size)(hn₀:n₀<=w.heap.size)
  (hc:w.cell? ⟨Bs,0,none⟩=some sv) (hI:StsL n₀ w sv zs):
  SeqW Tryz.prog 87 #[.pointer (some ⟨Bs,0,none⟩)] (fun x:Nat=> #[.agg (zs[x]?.getD stz).cs.toArray]) n₀ (AllTo zs.length) (SomeTo zs.length) w:=fun l J Jx W hW hJ _ hY h0=>by
 have hc':=(hW.cell (p:=⟨Bs,0,none⟩) hBs).trans hc;obtain⟨a,cap,rfl,hcs⟩:=hI.below (hW.mono hn₀);by_cases hz:zs=[]
 ·subst hz;exact(stVals1_nil a cap l Bs J W hc' h0).mono fun e W' ⟨he,hj⟩=>⟨he,.inl ⟨_,rfl,hj⟩⟩
 ·have hpos:0<zs.length:=by cases zs with |nil=>exact absurd rfl hz|cons _ _=>simp
  obtain⟨b,off,rfl,hb,-⟩:=hcs 0 hpos;have hcs':∀j,j<zs.length->d2k W b (off+j * 9) (zs[j]?.getD stz).cs:=fun j hj=>by
   obtain⟨b',off',e,_,c⟩:=hcs j hj;injection e with e;injection e with e1 e2 _;subst e1;subst e2;exact c
  exact stVals1_in l Bs n₀ b off cap _ zs hreach (fun _=>hb) J Jx hJ hY W (jH hn₀ hW.size) hc' hcs' h0
theorem zs_leave{A:World}{D:Nat}{a:Act}{R:Ending->World->Prop}(hd:a.defers=[{target:= .collected D,args:= #[]}])(hK:A.heap[D]?=some (.deferred (some [])))(h:R (.returned (.tuple #[])) (A.putObj D (.deferred none))):
  bodyPostM Fence.wide 6 Tryz.prog Tryz.f45 R .normal a A:=by
 obtain⟨tm,df⟩:=a;simp only at hd;subst hd;refine⟨by simp,.inl ⟨_,_,rfl,run_takeDeferred hK,?_⟩⟩;exact⟨.tuple #[],by simp[results,results45,go_sem],h⟩
theorem box_bl{A B:World}{b:Nat}{t:TypeId}{u:Value}(h:Boxed A b t u)(hb:Bl A B):Boxed B b t u:=(hb.block _ (lt_of_heap h)).trans h
theorem enters_valuesSet1(args:Array Value)(w:World):(callFunc 87 args).run Tryz.prog w= .ok (.enter 87 args) w:=by
 simp[go_sem]
theorem zSets1_seq(g n₀:Nat)(sv:Value)(zs:List StA)(hreach:zs.length<=1000000)(w:World)(hg:g<w.heap.size)(hn₀:n₀<=w.heap.size)
  (hc:w.cell? ⟨g,0,none⟩=some sv) (hI:StsL n₀ w sv zs):
  SeqW Tryz.prog 45 #[.pointer (some ⟨g,0,none⟩)] (fun x:Nat=> #[S (zs[x]?.getD stz).1.n,.agg (qD (zs[x]?.getD stz).1.x (zs[x]?.getD stz).sv).toArray]) n₀ (AllTo zs.length) (SomeTo zs.length) w:=fun l J Jx W hW hJ hJx hY h0=>by
 have hc':=(hW.cell (p:=⟨g,0,none⟩) hg).trans hc;have HY:=aB hY;have HI:=aB (hI.below (hW.mono hn₀));obtain⟨a,cap,rfl,-⟩:=id hI;have hz0:=hW.size;have HJ:=aB hJ;have HJx:=aB hJx;have H0:=aB h0;clear hI hY hW hc hJ hJx h0;refine(callsIn_wide (n:=6)).1 ?_;refine callsIn_of_wp_marks func45 rfl trivial ?_ rfl;simp only[ntmps45,gG,aX,bL,Nat.reduceAdd,Nat.reduceSub,eX,eU,gH,fD,cB,bE];have c1:(W.alloc (.cells #[.func (.yield l) #[] #[]] 106)).cell? ⟨g,0,none⟩=some (.slice a zs.length cap):=((Bl.refl W).alloc _).cell hc';have hgW:g<W.heap.size:=aE;obtain⟨Q,hQ⟩:∃Q:Nat->StA,(fun j=>zs[j]?.getD stz)=Q:=⟨_,rfl⟩
 have hQj:∀j,zs[j]?.getD stz=Q j:=fun j=>congrFun hQ j;simp only[hQj] at HY
 gi_wp2
 refine wpIn_scope (wpIn_seq (wpIn_label ?_))
 gi_wp2_with fail
 refine⟨trivial,?_⟩;refine(callsIn_wide.2 (stVals_any _ _ _ _)).mono ?_;rintro e w' ⟨rfl,rfl⟩
 gi_wp2_with fail
 have bY:=(Boxed.new W 106 (.func (.yield l) #[] #[])).alloc (.cells #[.slice a zs.length cap] 43);have bS:=Boxed.new (W.alloc (.cells #[.func (.yield l) #[] #[]] 106)) 43 (.slice a zs.length cap);have hB2:Bl W ((W.alloc (.cells #[.func (.yield l) #[] #[]] 106)).alloc (.cells #[.slice a zs.length cap] 43)):=((Bl.refl W).alloc _).alloc _;have hz2:((W.alloc (.cells #[.func (.yield l) #[] #[]] 106)).alloc (.cells #[.slice a zs.length cap] 43)).heap.size=W.heap.size+2:=aa;simp only[aR] at bS;have hJ2:=HJ.o.alloc (.cells #[.slice a zs.length cap] 43) (HJ.o.alloc (.cells #[.func (.yield l) #[] #[]] 106) H0.o);obtain⟨W2,hW2⟩:∃W2,(W.alloc (.cells #[.func (.yield l) #[] #[]] 106)).alloc (.cells #[.slice a zs.length cap] 43)=W2:=⟨_,rfl⟩
 rw[hW2] at bY bS hB2 hz2 hJ2⊢;clear hW2 c1;have HSQ:=stVals_seq (W.heap.size+1) n₀ (.slice a zs.length cap) zs hreach W2 aE aE bS.cell (HI.o.below (hB2.mono aE));simp only[hQj] at HSQ;refine' wpIn_rangeFunc_ownX (m:=4) rfl enters_valuesSet1 HSQ aE (fun _=>rfl)
  (fun pre A=>J pre A/\Boxed A W.heap.size 106 (.func (.yield l) #[] #[])/\W.heap.size<=A.heap.size)
  (fun c pre A=>c= .exit 0/\Jx pre A)
  ((ownFrom_more HJ.o aE).and (((boxed_own (β:=List Nat) W.heap.size 106 (fun _=> .func (.yield l) #[] #[])).from _).and (fun _ _ _ _ hs hg _=>jH hs hg.size)))
  (fun c s A B row hs hg hr=>⟨hs.1,(ownFrom_more HJx.o (show W.heap.size<=W2.heap.size by omega)) s A B row hs.2 hg hr⟩)
  ⟨hJ2,bY,by omega⟩ (fun j=> .cells (Q j).cs.toArray 63 (0,0)) (fun _=>rfl) _ ?assign ?body ?done ?stop
 case assign=>
  intro l0 pre j B K hI hK;have hb:Bl B (B.alloc (.cells (Q j).cs.toArray 63)):=(Bl.refl B).alloc _;have hsz:=hI.2.2;obtain⟨z,hz⟩:∃z,B.heap.size=z:=⟨_,rfl⟩
  have hK':=hK z _ (.bl hb) (hb.mono aE) ⟨HJ.o.alloc _ hI.1,box_bl hI.2.1 hb,jH hsz hb.size⟩ (aV B _ hz.symm);clear hK hI hb;dsimp only[StA.cs,StA.sv,qD] at hK'⊢
  gi_wp2
  exact hK'
 case body=>
  rintro l0 pre j z B hl hI hX hsp;obtain⟨fn,tmps,assign,body,hy,hR⟩:=HY.o 3 pre j B hI.1 hsp;obtain⟨e0,e1,e2,e3,e4,e5,e6,e7,e8⟩:=nineH hX;have ey:=hI.2.1.cell;have HI1:=aB hI;clear hI hX;dsimp only[StA.sv,qD] at hy e8
  gi_wp2
  refine(show RoundIn (Fence.wide.inRound l0) 3 _ _ _ _ _ _ _ _ from hR).mono ?_;rintro e U ⟨hk,(⟨rfl,hJ3,hb3⟩|⟨rfl,hx3⟩)⟩
  ·have HH:=aB (bT (hk.later (B':=W2.heap.size) aE) (bT hb3 (bT hJ3 (bT (hk.at (aH _) HI1.o.2.1) (jH HI1.o.2.2 hk.size)))));clear hk hb3 hJ3 e0 e1 e2 e3 e4 e5 e6 e7 e8 ey
   gi_wp2
   exact⟨HH.o.1,HH.o.2.1,HH.o.2.2.1,HH.o.2.2.2.1,HH.o.2.2.2.2⟩
  ·have HH:=aB (bT (hk.later (B':=W2.heap.size) aE) hx3);clear hk hx3 e0 e1 e2 e3 e4 e5 e6 e7 e8 ey
   gi_wp2
   exact⟨HH.o.1,rfl,HH.o.2⟩
 case done=>
  rintro D ys A hD hS ⟨hJ,-,-⟩ hK;have HH:=aB (bT hJ hK);clear hJ hK
  gi_wp2
  simp only[Exit.noGoto];exact zs_leave rfl HH.o.2 ⟨⟨_,rfl⟩,.inl ⟨_,hS,HJ.o.putObj _ HH.o.1 aE HH.o.2 rfl⟩⟩
 case stop=>
  rintro D c pre A hD hS ⟨rfl,hx⟩ hK;have HH:=aB (bT hx hK);clear hx hK
  gi_wp2
  simp only[Exit.noGoto];exact zs_leave rfl HH.o.2 ⟨⟨_,rfl⟩,.inr ⟨_,hS,HJx.o.putObj _ HH.o.1 aE HH.o.2 rfl⟩⟩
end
end Go.Proofs.YtohlomdapelgeaaGreatDoor
