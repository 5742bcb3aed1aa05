/- Texts SM. -/
import Derived.Test.YtohlomdapelgeaaGreatDoorDB
import Derived.Lib.MinMax
namespace Go.Proofs.YtohlomdapelgeaaGreatDoor
open _root_.Go.Proofs.Tryz
open Go.RowKit
open _root_.Go.Addr renaming add->dY
open _root_.Array renaming getElem?_eq_some_iff->aC
open _root_.Go.RowKit.Below renaming grown->iL
open _root_.Go.Ending renaming returned->bQ
open _root_.Go.Lib renaming cell_of_heap->aG,hid->aB
open _root_.List renaming append_assoc->iK,getElem?_eq_getElem->aP,getElem?_map->iJ,length->lV,length_append->bD,length_cons->aX,length_nil->bL,map_append->kW,take_add_one->dN,take_length->gJ
open _root_.Nat renaming le_refl->aH,zero_add->gD,zero_le->dL
open _root_.Option renaming map_some->lX
open _root_.Go.World renaming size_alloc->aR
set_option maxRecDepth 100000
set_option maxHeartbeats 8000000
section
theorem over_max(q:Nat):∀(l:List Nat) (a:Nat),decide (q<l.foldl max a)=(decide (q<a)||l.any fun x=>decide (q<x))
 |[],a=>by rw[List.any_nil,Bool.or_false];rfl
 |x::r,a=>by
  rw[List.foldl_cons,over_max q r,List.any_cons];by_cases h1:q<a
  ·simp[h1,show q<max a x by omega]
  ·by_cases h2:q<x
   ·simp[h2,show q<max a x by omega]
   ·simp[h1,h2,show ¬q<max a x by omega]
theorem takeD_snocN{α:Type}(l:List α){j:Nat}(hj:j<l.length):l.take (j+1)=l.take j++[l[j]]:=by rw[dN,aP hj];rfl
def lensW(w:Wr):List Nat:=[w.cols.length,w.conf.length,w.sets.length,w.ret.length]++w.rows.map lV++w.whens.flatMap fun x=>[x.sets.length,x.cols.length,x.vals.length]
theorem manyW_eq(w:Wr):manyW w=(decide (32<(lensW w).foldl max 0)||(decide (64<w.rows.length)||decide (8<w.whens.length))):=by
 rw[over_max];unfold manyW lensW;simp only[List.any_append,List.any_cons,List.any_nil,List.any_map,List.any_flatMap,Nat.not_lt_zero,decide_false,Bool.false_or,Bool.or_false,Function.comp_def]
 ac_rfl
abbrev lenV(n:Nat):Value:= .int .i64 (n:Int)
def OwnL(W:World)(base:Nat)(v:Value)(l:List Nat):Prop:=W.ownsRow base 3 1 v l.length (l.map lenV)
theorem OwnL.cell{W:World}{base:Nat}{v:Value}{l:List Nat}(h:OwnL W base v l)(h0:0<l.length):∃g cap,v= .slice (some ⟨g,0,none⟩) l.length cap/\∀j,(hj:j<l.length)->W.cell? ⟨g,j,none⟩=some (.int .i64 (l[j]:Int)):=by
 obtain⟨h1,h2|⟨g,cap,cur,e,-,hh,-,-,-,ht⟩⟩:=id h
 ·omega
 ·refine⟨g,cap,e,fun j hj=>?_⟩;subst e;have hc:=World.ownsRow.cellAt h j aE;rw[hc];rw[iJ,aP hj];rfl
theorem lMax_any{l:List Nat}(h0:0<l.length)(hm:l.length<=10000000)(W:World)(g cap:Nat)(hc:∀j,(hj:j<l.length)->W.cell? ⟨g,j,none⟩=some (.int .i64 (l[j]:Int))):
  eg 139 #[.slice (some ⟨g,0,none⟩) l.length cap] W fun e w'=>e= .returned (.int .i64 ((l.foldl max 0:Nat):Int))/\W=w':=by
 have HC:=aB hc;have c0:=hc 0 h0;have HX:=aB (show l[0]'h0=(l.take 1).foldl max 0 from by
  cases l with
  |nil=>cases h0
  |cons x r=>simp)
 clear hc;obtain⟨R,HR⟩:∃R,Hid (l.foldl max 0=R):=⟨_,rfl⟩
 rw[HR.o];have h1:¬(l.length:Int)<1:=aE;obtain⟨y,hy⟩:∃y,l[0]'h0=y:=⟨_,rfl⟩
 rw[hy] at c0 HX;clear hy;go_enter func139,ntmps139;go_wp2_with fail;go_loopw [3,4] (fun m i wr=>∃j z:Nat,1<=j/\j<=l.length/\i= .int .i64 (j:Int)/\m= .int .i64 (z:Int)/\Hid (z=(l.take j).foldl max 0)/\W=wr) (fun _ i _=>l.length-(intOf i).toNat)
 case atStart=>exact⟨1,y,aH _,by omega,rfl,rfl,HX.o,rfl⟩
 case round=>
  clear HX c0;obtain⟨j,z,hj1,hj,rfl,rfl,HZ,rfl⟩:=hrel;by_cases hlt:j<l.length
  ·have cj:=HC.o j hlt;have HN:=aB (show max z l[j]=(l.take (j+1)).foldl max 0 from by rw[HZ.o,takeD_snocN l hlt,List.foldl_append];rfl);have hlt':(j:Int)<(l.length:Int):=aE;generalize l[j]=x at *;have hmx:max (z:Int) (x:Int)=((max z x:Nat):Int):=aE;go_wp2;go_roundw
   case rel=>exact⟨j+1,max z x,by omega,by omega,by go_num,by first |rfl|(rw[hmx]),HN.o,by first |rfl|trivial⟩
   case measure=>simp[intOf];omega
  ·obtain rfl:j=l.length:=by omega
   have HN:=aB (show z=R from by rw[HZ.o,gJ,HR.o]);go_wp2;go_ret;exact⟨by rw[HN.o]<;>rfl,by first |rfl|trivial⟩
theorem at13{W:World}{b o:Nat}{m:Bool}{k v1 v2 n9:Int}{v3 t n:List UInt8}{s ss sc sv:Value}{x:Int}(h:d2k W b o (whC m k v1 v2 v3 t n x s n9 ss sc sv)):
  (W.cell? ⟨b,o,none⟩=some (.bool m)/\W.cell? ⟨b,o+1,none⟩=some (.int .i64 k)/\W.cell? ⟨b,o+2,none⟩=some (.int .i64 v1)/\W.cell? ⟨b,o+3,none⟩=some (.int .i64 v2)/\W.cell? ⟨b,o+4,none⟩=some (S v3)/\W.cell? ⟨b,o+5,none⟩=some (S t))/\
  W.cell? ⟨b,o+6,none⟩=some (S n)/\W.cell? ⟨b,o+7,none⟩=some (.int .i64 x)/\W.cell? ⟨b,o+8,none⟩=some s/\W.cell? ⟨b,o+9,none⟩=some (.int .i64 n9)/\W.cell? ⟨b,o+10,none⟩=some ss/\W.cell? ⟨b,o+11,none⟩=some sc/\W.cell? ⟨b,o+12,none⟩=some sv:=
 ⟨⟨h 0 _ rfl,h 1 _ rfl,h 2 _ rfl,h 3 _ rfl,h 4 _ rfl,h 5 _ rfl⟩,h 6 _ rfl,h 7 _ rfl,h 8 _ rfl,h 9 _ rfl,h 10 _ rfl,h 11 _ rfl,h 12 _ rfl⟩
structure MaF(c:Array Value)(W A:World):Prop where
 x:A.heap[W.heap.size]?=some (.cells c 46 (0,0))
 bl:Bl W A
theorem MaF.call{c:Array Value}{W A B:World}(h:MaF c W A)(hb:Bl A B):MaF c W B:=⟨(hb.block _ (aC.1 h.x).1).trans h.x,h.bl.call hb⟩
theorem MaF.own{c:Array Value}{W A B:World}{r:Option Nat}(h:MaF c W A)(hg:A.grownBy B r)(hr:∀j,r=some j->W.heap.size+1<=j):MaF c W B:=
 ⟨(hg.block _ (aC.1 h.x).1 (fun e=>by have:=hr _ e.symm;omega)).trans h.x,iL h.bl hg h.bl.size (fun i hi=>by have:=hr i hi;omega)⟩
theorem lenFull:(prog.info? 3).map (fun i=>(i.zero,i.size,i.bytes))=some (some (.int .i64 0),1,8):=by kernel_rfl
theorem append_lens{ops:Array Oper}{rest:List Oper}{o:Oper}{a:Act}{w:World}{Q:Exit->Act->World->Prop}(hgd:o.guard=none)(s x:Operand)(ho:o.op= .call {callee:= .builtin .append,args:= #[s,x],argTypes:= #[200,200]})
  (base:Nat) (v:Value) (l:List Nat) (hs:a.eval s=v) (hown:OwnL w base v l) (m:List Nat) (b:Nat) (hx:a.eval x= .slice (some ⟨b,0,none⟩) m.length m.length) {t:TypeId}
  (hb:w.heap[b]?=some (.cells (m.map lenV).toArray t (0,0))) (hfew:l.length+m.length<=10000000) (hbase:base<=w.heap.size)
  (h:∀v' w',OwnL w' base v' (l++m)->w.grownBy w' v.ownBlock->(v'.ownBlock=v.ownBlock\/v'.ownBlock=some w.heap.size)->wpList prog ops Q rest (a.put o.dst v') w'):wpList prog ops Q (o::rest) a w:=by
 obtain⟨i,hi,hz0,hz1,hz2⟩:∃i,prog.info? 3=some i/\i.zero=some (.int .i64 0)/\i.size=1/\i.bytes=8:=by
  have hT:=lenFull;cases hi:prog.info? 3 with
  |none=>rw[hi] at hT;cases hT
  |some i=>
   rw[hi] at hT;simp only[lX,Option.some.injEq,Prod.mk.injEq] at hT;exact⟨i,rfl,hT.1,hT.2.1,hT.2.2⟩
 refine wpList_append_own_at _ hgd s x 200 ho base 3 i (.int .i64 0) 1 8 underlying200 hi hz0 hz1 hz2 rfl ae v l.length _ hs hown ⟨b,0,none⟩ m.length m.length (m.map lenV) hx aa (fun j u hj=>?_) (fun u hu=>?_) cG aE hbase (fun v' w' h1 h2 _ h4=>h v' w' ?_ h2 h4)
 ·rw[show(⟨b,0,none⟩:Addr).add j=⟨b,0+j,none⟩ from by simp[dY];intro h;exact h.symm,aG hb,gD,<-hj];simp
 ·obtain⟨z,-,rfl⟩:=List.mem_map.1 hu;rfl
 ·show World.ownsRow _ _ _ _ _ _ _;rw[bD,kW];exact h1
abbrev rowLens(l:List (List Ex)):List Nat:=l.map lV
abbrev whenLens(l:List Wn):List Nat:=l.flatMap fun x=>[x.sets.length,x.cols.length,x.vals.length]
theorem rowLens_snoc(l:List (List Ex)){j:Nat}(hj:j<l.length):rowLens (l.take (j+1))=rowLens (l.take j)++[l[j].length]:=by
 rw[takeD_snocN l hj];exact kW
theorem whenLens_snoc(l:List Wn){j:Nat}(hj:j<l.length):whenLens (l.take (j+1))=whenLens (l.take j)++[l[j].sets.length,l[j].cols.length,l[j].vals.length]:=by
 rw[takeD_snocN l hj];show List.flatMap _ _=List.flatMap _ _++_;rw[List.flatMap_append,List.flatMap_singleton]
theorem whenLens_len:∀l:List Wn,(whenLens l).length=3 * l.length
 |[]=>rfl
 |x::r=>by
  have:=whenLens_len r;simp only[whenLens,List.flatMap_cons,bD,aX,bL] at this⊢;omega
theorem zmany_any(w:Wr)(h1:w.rows.length<=200000)(h2:w.whens.length<=200000)(W:World)(v:Value)(hv:ReadsW (fun _=>True) W w v):eg 95 #[v] W fun e w'=>e= .returned (.bool (manyW w))/\Bl W w':=by
 obtain⟨⟨s1,s2,si,sj,sw,sg,sh,so,s6,s8,s9,s11,s12,s13⟩,rfl,hp⟩:=hv;obtain⟨ca,cc,rfl,-⟩:=show RowsG gStr _ W s1 w.cols from hp.cols;obtain⟨ra,rc,rfl,hrows⟩:=(show RowsG gRow _ W s2 w.rows from hp.rows).shape;obtain⟨fa,fc,rfl,-⟩:=show RowsG gStr _ W s6 w.conf from hp.conf;obtain⟨ta,tc,rfl,-⟩:=show RowsG gSt _ W s8 w.sets from hp.sets;obtain⟨wa,wc,rfl,hwhens⟩:=(show RowsG gWn _ W s12 w.whens from hp.whens).shape;obtain⟨ia,ic,rfl,-⟩:=(show d2p fIt _ W s13 w.ret from hp.ret).shape;obtain⟨R,HR⟩:∃R,Hid (manyW w=R):=⟨_,rfl⟩
 rw[HR.o];have HRW:=aB hrows;have HWN:=aB hwhens;have HEQ:=aB (HR.o.symm.trans (manyW_eq w));have HLW:Hid (lensW w=[w.cols.length,w.conf.length,w.sets.length,w.ret.length]++w.rows.map lV++w.whens.flatMap fun x=>[x.sets.length,x.cols.length,x.vals.length]):=rfl;clear hp hrows hwhens;obtain⟨kind,⟨it,ial⟩,cols,rows,hasQ,q,conf,act,sets,wher,⟨ut,ual⟩,on,whens,ret⟩:=w;simp only at HRW HWN HEQ HLW h1 h2⊢;have HF0:=aB (show MaF _ W (W.alloc (.cells (cellsW ⟨kind,⟨it,ial⟩,cols,rows,hasQ,q,conf,act,sets,wher,⟨ut,ual⟩,on,whens,ret⟩ ⟨.slice ca cols.length cc,.slice ra rows.length rc,si,sj,sw,sg,sh,so,.slice fa conf.length fc,.slice ta sets.length tc,s9,s11,.slice wa whens.length wc,.slice ia ret.length ic⟩).toArray 46)) from⟨aN W _,(Bl.refl W).alloc _⟩);obtain⟨C,hC⟩:∃C,(cellsW ⟨kind,⟨it,ial⟩,cols,rows,hasQ,q,conf,act,sets,wher,⟨ut,ual⟩,on,whens,ret⟩ ⟨.slice ca cols.length cc,.slice ra rows.length rc,si,sj,sw,sg,sh,so,.slice fa conf.length fc,.slice ta sets.length tc,s9,s11,.slice wa whens.length wc,.slice ia ret.length ic⟩).toArray=C:=⟨_,rfl⟩
 have HC3:Hid (∀A,MaF C W A->A.cell? ⟨W.heap.size,3,none⟩=some (.slice ca cols.length cc)/\A.cell? ⟨W.heap.size,4,none⟩=some (.slice ra rows.length rc)/\A.cell? ⟨W.heap.size,30,none⟩=some (.slice fa conf.length fc)/\A.cell? ⟨W.heap.size,32,none⟩=some (.slice ta sets.length tc)/\A.cell? ⟨W.heap.size,51,none⟩=some (.slice wa whens.length wc)/\A.cell? ⟨W.heap.size,52,none⟩=some (.slice ia ret.length ic)):=fun A hA=>by
  rw[aG hA.x,aG hA.x,aG hA.x,aG hA.x,aG hA.x,aG hA.x,<-hC];exact⟨rfl,rfl,rfl,rfl,rfl,rfl⟩
 rw[hC] at HF0;obtain⟨n1,hn1⟩:∃n,Hid (cols.length=n):=⟨_,rfl⟩
 obtain⟨n2,hn2⟩:∃n,Hid (conf.length=n):=⟨_,rfl⟩
 obtain⟨n3,hn3⟩:∃n,Hid (sets.length=n):=⟨_,rfl⟩
 obtain⟨n4,hn4⟩:∃n,Hid (ret.length=n):=⟨_,rfl⟩
 rw[hn1.o,hn2.o,hn3.o,hn4.o] at HC3 HLW;have HLR:=aB (show[n1,n2,n3,n4]++rowLens rows++whenLens whens=lensW _ from HLW.o.symm);clear HLW;go_enter func95,ntmps95;obtain⟨f3,f4,f30,f32,f51,f52⟩:=HC3.o _ HF0.o
 go_upto_region 1 with fail
 rw[hC]
 go_upto_region 2 with fail
 clear f3 f4 f30 f32 f51 f52 hC;have HF1:=aB (HF0.o.call ((Bl.refl _).alloc (.cells #[.int .i64 (n1:Int),.int .i64 (n2:Int),.int .i64 (n3:Int),.int .i64 (n4:Int)] 3)));have HB1:=aB (aV (W.alloc (.cells C 46)) (.cells #[.int .i64 (n1:Int),.int .i64 (n2:Int),.int .i64 (n3:Int),.int .i64 (n4:Int)] 3) (k:=W.heap.size+1) aa);obtain⟨u,hu⟩:∃u,(W.alloc (.cells C 46)).alloc (.cells #[.int .i64 (n1:Int),.int .i64 (n2:Int),.int .i64 (n3:Int),.int .i64 (n4:Int)] 3)=u:=⟨_,rfl⟩
 change Code.wp _ _ _ _ ((W.alloc (.cells C 46)).alloc (.cells #[.int .i64 (n1:Int),.int .i64 (n2:Int),.int .i64 (n3:Int),.int .i64 (n4:Int)] 3));rw[hu] at HF1 HB1⊢;clear hu HF0;have f4:=(HC3.o _ HF1.o).2.1;go_wp2_with fail;clear f4;go_loopw [3,24] (fun l i wr=>∃(v0:Value) (j:Nat) (L:List Nat),v0=l/\i= .int .i64 (j:Int)/\j<=rows.length/\Hid (MaF C W wr)/\Hid (L=[n1,n2,n3,n4]++rowLens (rows.take j))/\Hid (OwnL wr (W.heap.size+1) v0 L)) (fun _ i _=>rows.length-(intOf i).toNat)
 case atStart=>exact⟨_,0,[n1,n2,n3,n4],rfl,rfl,dL _,HF1,aB rfl,aB ⟨rfl,.inr ⟨W.heap.size+1,4,_,rfl,aH _,HB1.o,aH _,by unfold maxLen;omega,rfl,rfl⟩⟩⟩
 case round=>
  clear HF1 HB1;obtain⟨v0,j,L,rfl,rfl,hj,HF,HL,HO⟩:=hrel;have hL:L.length=4+j:=(by rw[HL.o,bD];simp[rowLens];omega);have hlow:=aB HO.o.lt;have hz:=aB (show W.heap.size+1<=wr.heap.size from(aC.1 HF.o.x).1);by_cases hlt:j<rows.length
  ·obtain⟨b,off,cs,hra,-,hb,hcs,s,rfl,hr⟩:=HRW.o j hlt;subst hra;obtain⟨xa,xc,rfl⟩:=hr.shape;have HN:=aB (rowLens_snoc rows hlt);obtain⟨n,hn⟩:∃n,rows[j].length=n:=⟨_,rfl⟩
   rw[hn] at hcs HN;have cj:wr.cell? ⟨b,off+j,none⟩=some (.slice xa n xc):=by
    have h:=HF.o.bl.cell (hcs 0 _ rfl);rw[show off+j * gRow.n+0=off+j from by show off+j * 1+0=_;omega] at h;exact h
   have hlt':(j:Int)<(rows.length:Int):=aE;clear hr hcs hn;go_wp2_with (at_builtin;refine append_lens rfl (.tmp 28) (.tmp 31) rfl (W.heap.size+1) v0 _ rfl (gY ((Bl.refl _).alloc _) HO.o) [n] wr.heap.size rfl (aN wr _) (by rw[hL];simp;omega) (by rw[aR];have:=hz.o;omega) ?_)
   intro v' w6 hown6 hg6 hat;obtain⟨g6,k6,rfl,-⟩:=OwnL.cell hown6 aa;have HF6:=aB ((HF.o.call ((Bl.refl _).alloc _)).own hg6 (fun i hi=>(hlow.o i hi).1));have HO6:=aB hown6;have HL6:=aB (show L++[n]=[n1,n2,n3,n4]++rowLens (rows.take (j+1)) from by rw[HN.o,<-iK,HL.o]);clear hown6 hg6 hat cj;go_wp2;go_roundw
   case rel=>exact⟨_,j+1,_,rfl,by go_num,hlt,HF6,HL6,HO6⟩
   case measure=>simp[intOf];omega
  ·obtain rfl:j=rows.length:=by omega
   rw[gJ] at HL;have f51:=(HC3.o _ HF.o).2.2.2.2.1;go_wp2_with fail;clear f51 hj hlt hlow hz;go_loopw [3,37] (fun l i wr=>∃(v0:Value) (j:Nat) (L:List Nat),v0=l/\i= .int .i64 (j:Int)/\j<=whens.length/\Hid (MaF C W wr)/\Hid (L=[n1,n2,n3,n4]++rowLens rows++whenLens (whens.take j))/\Hid (OwnL wr (W.heap.size+1) v0 L)) (fun _ i _=>whens.length-(intOf i).toNat)
   case atStart=>exact⟨v0,0,L,rfl,rfl,dL _,HF,aB (by rw[HL.o];exact(List.append_nil _).symm),HO⟩
   case round=>
    clear HF HO HL hL;obtain⟨v1,j,M,rfl,rfl,hj,HF,HL,HO⟩:=hrel;have hL:M.length=4+rows.length+3 * j:=by
     rw[HL.o,bD,whenLens_len,bD,List.length_take];simp[rowLens];omega
    have hlow:=aB HO.o.lt;have hz:=aB (show W.heap.size+1<=wr.heap.size from(aC.1 HF.o.x).1);by_cases hlt:j<whens.length
    ·obtain⟨b,off,cs,hwa,-,hb,hcs,s,ss,sc,sv,rfl,hr,hs1,hs2,hr3⟩:=HWN.o j hlt;subst hwa;have HN:=aB (whenLens_snoc whens hlt);obtain⟨x,hx⟩:∃x,whens[j]=x:=⟨_,rfl⟩
     rw[hx] at hcs hr hs1 hs2 hr3 HN;obtain⟨m,⟨k,⟨v1',v2',v3'⟩,t,nn,o,args⟩,act',sets',cols',vals'⟩:=x;obtain⟨xa,xc,rfl⟩:=hr.shape;obtain⟨ya,yc,rfl,-⟩:=hs1;obtain⟨za,zc,rfl,-⟩:=hs2;obtain⟨ua,uc,rfl⟩:=hr3.shape;simp only[Ex.args] at hcs HN;have hcs2:d2k wr b (off+j * 13) (whC m k v1' v2' v3' t nn o (.slice xa args.length xc) act' (.slice ya sets'.length yc) (.slice za cols'.length zc) (.slice ua vals'.length uc)):=hcs.keep (HF.o.bl.block b hb);obtain⟨⟨c0,c1,c2,c3,c4,c5⟩,c6,c7,c8,c9,c10,c11,c12⟩:=at13 hcs2;have hlt':(j:Int)<(whens.length:Int):=aE;clear hr hcs hx hr3 hcs2;go_wp2_with (at_builtin;refine append_lens rfl (.tmp 41) (.tmp 51) rfl (W.heap.size+1) v1 _ rfl (gY (((Bl.refl _).alloc _).alloc _) HO.o) [sets'.length,cols'.length,vals'.length] (wr.heap.size+1) rfl (aV _ _ aa) (by rw[hL];simp;omega) (by rw[aR,aR];have:=hz.o;omega) ?_)
     intro v' w6 hown6 hg6 hat;obtain⟨g6,k6,rfl,-⟩:=OwnL.cell hown6 aa;have HF6:=aB ((HF.o.call (((Bl.refl _).alloc _).alloc _)).own hg6 (fun i hi=>(hlow.o i hi).1));have HO6:=aB hown6;have HL6:=aB (show M++[sets'.length,cols'.length,vals'.length]=[n1,n2,n3,n4]++rowLens rows++whenLens (whens.take (j+1)) from by rw[HN.o,<-iK,HL.o]);clear hown6 hg6 hat c0 c1 c2 c3 c4 c5 c6 c7 c8 c9 c10 c11 c12;go_wp2;go_roundw
     case rel=>exact⟨_,j+1,_,rfl,by go_num,hlt,HF6,HL6,HO6⟩
     case measure=>simp[intOf];omega
    ·obtain rfl:j=whens.length:=by omega
     rw[gJ] at HL;obtain⟨g9,c9,rfl,hc9⟩:=OwnL.cell HO.o aE;have hH:=HC3.o _ HF.o;have f4:=hH.2.1;have f51:=hH.2.2.2.2.1;have HM:=aB (show lensW _=M from(HL.o.trans HLR.o).symm);rw[HM.o] at HEQ;obtain⟨X,hX⟩:∃X,M.foldl max 0=X:=⟨_,rfl⟩
     have HC9:=aB hc9;rw[hX] at HEQ;have HX:=aB hX;have hL0:0<M.length:=aE;have hL1:M.length<=10000000:=aE;clear hH hc9 hj hlt hlow hz hX hL;have q0:¬(whens.length:Int)<(whens.length:Int):=aE;go_wp2_with fail;refine(lMax_any hL0 hL1 wr g9 c9 HC9.o).mono ?_;rintro e w9 ⟨rfl,rfl⟩;rw[HX.o];by_cases q1:32<X
     ·have p1:(32:Int)<(X:Int):=by omega
      have HT:=aB (show true=R from by rw[HEQ.o];simp[q1]);go_wp2;go_ret;exact⟨by rw[<-HT.o]<;>rfl,HF.o.bl⟩
     ·have p1:¬(32:Int)<(X:Int):=by omega
      by_cases q2:64<rows.length
      ·have p2:(64:Int)<(rows.length:Int):=by omega
       have HT:=aB (show true=R from by rw[HEQ.o];simp[q2]);go_wp2;go_ret;exact⟨by rw[<-HT.o]<;>rfl,HF.o.bl⟩
      ·have p2:¬(64:Int)<(rows.length:Int):=by omega
       by_cases q3:8<whens.length
       ·have p3:(8:Int)<(whens.length:Int):=by omega
        have HT:=aB (show true=R from by rw[HEQ.o];simp[q3]);go_wp2;go_ret;exact⟨by rw[<-HT.o]<;>rfl,HF.o.bl⟩
       ·have p3:¬(8:Int)<(whens.length:Int):=by omega
        have HT:=aB (show false=R from by rw[HEQ.o];simp[q1,q2,q3]);go_wp2;go_ret;refine⟨?_,HF.o.bl⟩;rw[<-HT.o];show bQ (Value.bool (decide ((32:Int)<(X:Int))||decide ((64:Int)<(rows.length:Int))||decide ((8:Int)<(whens.length:Int))))=_;rw[decide_eq_false (show ¬(32:Int)<(X:Int) by omega),decide_eq_false (show ¬(64:Int)<(rows.length:Int) by omega),decide_eq_false (show ¬(8:Int)<(whens.length:Int) by omega)];rfl
end
end Go.Proofs.YtohlomdapelgeaaGreatDoor
