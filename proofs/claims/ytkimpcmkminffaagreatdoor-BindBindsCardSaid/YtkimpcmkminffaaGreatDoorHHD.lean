/- Texts beside the shared ones. -/
import Derived.Test.YtkimpcmkminffaaGreatDoorHX0
import Derived.Test.YtkimpcmkminffaaGreatDoorHHA
namespace Go.Proofs.YtkimpcmkminffaaGreatDoor
open Go.RowKit Go.Shelf
open _root_.Array renaming replicate_succ->eX,replicate_zero->eU
open _root_.Go.RowKit.Below renaming refl->bS
open _root_.Go.Lib renaming hid->aB
open _root_.List renaming append_toArray->fD,cons_append->bE,ext_getElem->kX,getElem?_eq_getElem->aP,length_cons->aX,length_nil->bL,nil_append->cB,push_toArray->gH,range->iU,size_toArray->gG
open _root_.Nat renaming le_trans->jH,zero_le->dL
open _root_.Go.Oper renaming semAt_some->nC
open _root_.Option renaming getD_some->oQ
set_option maxRecDepth 100000
set_option maxHeartbeats 2000000
section
attribute [local go_sem] nC
abbrev BdA:=Bd×Option Addr×Nat
abbrev BdA.sv(q:BdA):Value:= .slice q.2.1 q.1.args.length q.2.2
abbrev BdA.v(q:BdA):Value:=BdV q.1.k q.1.t q.1.v q.1.p q.1.o q.1.n q.sv
def bdz:BdA:=(zeroD,none,0)
def BdsL(n₀:Nat)(W:World)(sv:Value)(zs:List BdA):Prop:=∃a cap,sv= .slice a zs.length cap/\∀j,j<zs.length->∃b off,a=some ⟨b,off,none⟩/\b<n₀/\d2k W b (off+j * 9) (cells9 (zs[j]?.getD bdz).1 (zs[j]?.getD bdz).sv)
theorem BdsL.below{n₀:Nat}{A B:World}(h:Below n₀ A B){sv:Value}{zs:List BdA}(k:BdsL n₀ A sv zs):BdsL n₀ B sv zs:=by
 obtain⟨a,cap,e,hc⟩:=k;refine⟨a,cap,e,fun j hj=>?_⟩;obtain⟨b,off,e2,hb,h8⟩:=hc j hj;exact⟨b,off,e2,hb,h8.keep (h.block b hb)⟩
theorem bdsL_of{W:World}{sv:Value}{l:List Bd}(h:ReadsDL (fun _=>True) W sv l):∃zs:List BdA,zs.map (·.1)=l/\BdsL W.heap.size W sv zs/\∀q∈zs,ReadsDL (fun _=>True) W q.sv q.1.args:=by
 cases h with
 |mk a cap l s h1 h2=>
  have hs:∀j,∃p:Option Addr×Nat,∀x,l[j]?=some x->s j= .slice p.1 x.args.length p.2:=fun j=>by
   cases hx:l[j]? with
   |none=>exact⟨(none,0),fun x h=>by cases h⟩
   |some x=>
    obtain⟨a',c',e,-⟩:=(h2 j x hx).shape;exact⟨(a',c'),fun y hy=>by injection hy with hy;subst hy;exact e⟩
  obtain⟨F,hF⟩:=Classical.axiomOfChoice hs;have hg:∀j,j<l.length->(((iU l.length).map fun j=>((l[j]?.getD zeroD,F j):BdA))[j]?.getD bdz)=((l[j]?.getD zeroD,F j):BdA):=fun j hj=>(by simp[hj]);refine⟨(iU l.length).map fun j=>(l[j]?.getD zeroD,F j),?_,⟨a,cap,by simp,fun j hj=>?_⟩,fun q hq=>?_⟩
  ·apply kX
   ·simp
   ·intro i h1 h2;have:i<l.length:=h2;simp[this]
  ·have hj':j<l.length:=by simpa using hj
   rw[hg j hj'];have hx:l[j]?=some l[j]:=aP hj';obtain⟨b,off,e,-,hbl,h8⟩:=h1 j _ hx;have hsj:=hF j _ hx;refine⟨b,off,e,hbl,?_⟩;rw[hx,oQ];rw[hsj] at h8;exact h8
  ·obtain⟨j,hj,rfl⟩:=List.mem_map.1 hq;have hj':j<l.length:=(by simpa using hj);have hx:l[j]?=some l[j]:=aP hj';have h:=h2 j _ hx;rw[hF j _ hx] at h;rw[hx,oQ];exact h
set_option maxRecDepth 100000 in
theorem bdVals1_in(F:Fence)(n:Nat)(h7:F.fn 61)(hro:F.round=none)(hn:1<=n)(l Bs n₀ b off len cap:Nat)(zs:List BdA)(hreach:len<=1000000)(hb:0<len->b<n₀)(J Jx:List Nat->World->Prop)(hJ:∀pre W o,J pre W->J pre (W.alloc o))
  (hY:∀pre x W,J pre W->pre.length<len->YieldAt F (n-1) Tryz.prog l #[(zs[x]?.getD bdz).v] W fun e W'=>
   (e= .returned (.bool true)/\J (pre++[x]) W'/\Below n₀ W W')\/(e= .returned (.bool false)/\Jx (pre++[x]) W'))
  (W:World) (hn₀:n₀<=W.heap.size) (hBs:W.cell? ⟨Bs,0,none⟩=some (.slice (some ⟨b,off,none⟩) len cap)) (hc:∀j,j<len->d2k W b (off+j * 9) (cells9 (zs[j]?.getD bdz).1 (zs[j]?.getD bdz).sv)) (h0:J [] W):
  CallsIn F n Tryz.prog 61 #[.func (.yield l) #[] #[],.pointer (some ⟨Bs,0,none⟩)] W fun e W'=>(∃v,e= .returned v)/\
   ((∃ys,ys=upto (fun j=>j) len/\J ys W')\/(∃pre,(∃k,k<=len/\pre=upto (fun j=>j) k)/\Jx pre W')):=by
 refine callsIn_of_wp Tryz.func61 rfl h7 ?_ hro;simp only[Tryz.ntmps61,gG,aX,bL,Nat.reduceAdd,Nat.reduceSub,eX,eU,gH,fD,cB,bE]
 gi_wp2
 gi_loopw [7] (fun i wr=>∃k:Nat,k<=len/\i= .int .i64 k/\J (upto (fun j=>j) k) wr/\Hid (Below n₀ W wr))
  (fun i _=>len-(intOf i).toNat)
 case atStart=>exact⟨0,dL _,rfl,h0,bS _ _⟩
 case round=>
  obtain⟨k,hk,rfl,hJs,HN⟩:=hrel;by_cases hlt:k<len
  ·have HY:=aB (fun o=>hY _ k (wr.alloc o) (hJ _ _ _ hJs) (by rw[zN];exact hlt));have hzw:=HN.o.size;obtain⟨e0,e1,e2,e3,e4,e5,e6,e7,e8⟩:=((hc k hlt).keep (HN.o.block b (hb (by omega)))).nine;generalize hz:zs[k]?.getD bdz=z at *;have HZ:=aB hz;clear hz;obtain⟨⟨zk,zt,⟨z1,z2,z3⟩,zp,zo,zn,za⟩,ad,ca⟩:=z;simp only[Bd.k,Bd.t,Bd.v,Bd.p,Bd.o,Bd.n] at e0 e1 e2 e3 e4 e5 e6 e7;dsimp only[BdA.sv,Bd.args] at e8;obtain⟨fn,tmps,assign,body,hy,hR⟩:=HY.o (.cells #[.int .i64 zk,.int .i64 zt,.int .i64 z1,.int .i64 z2,S z3,.int .i64 zp,.int .i64 zo,S zn,.slice ad za.length ca] 30);dsimp only[BdA.v,BdA.sv,Bd.k,Bd.t,Bd.v,Bd.p,Bd.o,Bd.n,Bd.args] at hy
   gi_wp2
   refine hR.mono ?_;rintro e W3 (⟨rfl,hJ3,hk3⟩|⟨rfl,hJx3⟩)
   ·have HK3:=aB hk3;clear hk3
    gi_wp2
    go_roundw
    case rel=>exact⟨k+1,by omega,by simp,by rw[wH];exact hJ3,HN.o.trans (((bS _ wr).alloc (by omega) _).trans HK3.o)⟩
    case measure=>simp[intOf];omega
   ·gi_wp2
    refine bodyPost_ret (results_none rfl _ _ _) rfl ?_;exact⟨⟨_,rfl⟩,.inr ⟨_,⟨k+1,by omega,by rw[wH]⟩,hJx3⟩⟩
  ·obtain rfl:k=len:=by omega
   gi_wp2
   go_end0;exact⟨⟨_,rfl⟩,.inl ⟨_,rfl,hJs⟩⟩
set_option maxRecDepth 100000 in
theorem bdVals1_nil(a:Option Addr)(cap:Nat)(F:Fence)(n:Nat)(h7:F.fn 61)(hro:F.round=none)(l Bs:Nat)(J:List Nat->World->Prop)(W:World)(hBs:W.cell? ⟨Bs,0,none⟩=some (.slice a 0 cap))(h0:J [] W):
  CallsIn F n Tryz.prog 61 #[.func (.yield l) #[] #[],.pointer (some ⟨Bs,0,none⟩)] W fun e W'=>(∃v,e= .returned v)/\J [] W':=by
 refine callsIn_of_wp Tryz.func61 rfl h7 ?_ hro;simp only[Tryz.ntmps61,gG,aX,bL,Nat.reduceAdd,Nat.reduceSub,eX,eU,gH,fD,cB,bE]
 gi_wp2
 gi_loopw [7] (fun i wr=>i= .int .i64 0/\J [] wr) (fun _ _=>0)
 case atStart=>exact⟨rfl,h0⟩
 case round=>
  obtain⟨rfl,hJs⟩:=hrel
  gi_wp2
  go_end0;exact⟨⟨_,rfl⟩,hJs⟩
set_option maxRecDepth 100000 in
theorem bdVals_in(F:Fence)(n:Nat)(h5:F.fn 39)(hro:F.round=none)(a:Option Addr)(len cap:Nat)(w:World):
  CallsIn F n Tryz.prog 39 #[.slice a len cap] w fun e w'=>e= .returned (.func (.func 61) #[] #[.pointer (some ⟨w.heap.size,0,none⟩)])/\w'=w.alloc (.cells #[.slice a len cap] 28):=by
 refine callsIn_of_wp Tryz.func39 rfl h5 ?_ hro;simp only[Tryz.ntmps39,gG,aX,bL,Nat.reduceAdd,Nat.reduceSub,eX,eU,gH,fD,cB,bE]
 gi_wp2
 go_ret;exact⟨rfl,rfl⟩
theorem bdVals_stops(F:Fence)(n:Nat)(h7:F.fn 61)(hro:F.round=none)(hn:1<=n)(Bs n₀:Nat)(sv:Value)(zs:List BdA)(hreach:zs.length<=1000000)(w:World)(hBs:Bs<w.heap.size)(hn₀:n₀<=w.heap.size)
  (hc:w.cell? ⟨Bs,0,none⟩=some sv) (hI:BdsL n₀ w sv zs):
  SeqStopsK F n Tryz.prog 61 #[.pointer (some ⟨Bs,0,none⟩)] (fun x:Nat=> #[(zs[x]?.getD bdz).v]) (Below n₀) (fun ys=>ys=iU zs.length) (fun pre=>pre<+:iU zs.length) zs.length w:=fun l J Jx W hW hJ _ hY h0=>by
 have hc':=(hW.cell (p:=⟨Bs,0,none⟩) hBs).trans hc;obtain⟨a,cap,rfl,hcs⟩:=hI.below (hW.mono hn₀);by_cases hz:zs=[]
 ·subst hz;exact(bdVals1_nil a cap F n h7 hro l Bs J W hc' h0).mono fun e W' ⟨he,hj⟩=>⟨he,.inl ⟨_,rfl,hj⟩⟩
 ·have hpos:0<zs.length:=by cases zs with |nil=>exact absurd rfl hz|cons _ _=>simp
  obtain⟨b,off,rfl,hb,-⟩:=hcs 0 hpos;have hcs':∀j,j<zs.length->d2k W b (off+j * 9) (cells9 (zs[j]?.getD bdz).1 (zs[j]?.getD bdz).sv):=fun j hj=>by
   obtain⟨b',off',e,_,c⟩:=hcs j hj;injection e with e;injection e with e1 e2 _;subst e1;subst e2;exact c
  refine(bdVals1_in F n h7 hro hn l Bs n₀ b off zs.length cap zs hreach (fun _=>hb) J Jx (fun pre W1 o h=>hJ pre W1 _ none h (World.grownBy_alloc _ _ none) (fun r e=>by cases e)) hY W (jH hn₀ hW.size) hc' hcs' h0).mono ?_;rintro e W' ⟨he,⟨ys,rfl,hj⟩|⟨pre,⟨k,hk,rfl⟩,hj⟩⟩
  ·exact⟨he,.inl ⟨_,a1p _,hj⟩⟩
  ·exact⟨he,.inr ⟨_,by rw[a1p];exact a5l hk,hj⟩⟩
end
end Go.Proofs.YtkimpcmkminffaaGreatDoor
