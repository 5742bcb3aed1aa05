/- Texts beside the shared ones. -/
import Derived.Test.YtkimpcmkminffaaGreatDoorHX0
import Derived.Laws.AppendOwnNone
namespace Go.Proofs.YtkimpcmkminffaaGreatDoor
open Go.RowKit
open _root_.Array renaming getElem?_eq_some_iff->aC
open _root_.Go.RowKit.Below renaming grown->iL
open _root_.Go.Lib renaming cell_of_heap->aG,hid->aB
open _root_.List renaming eq_nil_of_length_eq_zero->lM,getElem?_eq_getElem->aP,getElem?_eq_some_iff->aO,getElem?_map->iJ,getElem_mem->dS,length_append->bD,take_append_drop->gF,take_of_length_le->jS
open _root_.Nat renaming le_refl->aH,le_trans->jH,zero_le->dL
open _root_.Option renaming getD_some->oQ,map_eq_some_iff->aT,map_some->lX
open _root_.Go.World renaming ownsRow_nil->d2l
set_option maxRecDepth 100000
set_option maxHeartbeats 8000000
section
theorem placessD_flat(l:List Bd):placessD l=l.flatMap placesD:=by
 induction l with
 |nil=>rfl
 |cons x r ih=>simp only[placessD,List.flatMap_cons,ih]
theorem placessD_snoc{l:List Bd}{j:Nat}(hj:j<l.length):placessD (l.take (j+1))=placessD (l.take j)++placesD l[j]:=by
 rw[placessD_flat,placessD_flat,takeD_snoc l hj,List.flatMap_append,List.flatMap_singleton]
mutual
theorem placesD_len:∀x:Bd,(placesD x).length<=partsD x
 | .mk k t v p o n l=>by
  have:=placessD_len l;simp only[placesD,partsD];split
  ·simp
  ·omega
theorem placessD_len:∀l:List Bd,(placessD l).length<=partssD l
 |[]=>by simp[placessD]
 |x::r=>by
  have:=placesD_len x;have:=placessD_len r;simp only[placessD,partssD,bD];omega
end
theorem placessD_take{l:List Bd}{j:Nat}(hj:j<l.length):(placessD (l.take j)).length+(placesD l[j]).length<=partssD l:=by
 have h:=placessD_len l;have e:placessD l=placessD (l.take (j+1))++placessD (l.drop (j+1)):=by
  rw[placessD_flat,placessD_flat,placessD_flat,<-List.flatMap_append,gF]
 rw[e,bD,placessD_snoc hj,bD] at h;omega
theorem placessD_upto{l:List Bd}{j:Nat}(hj:j<l.length):(placessD (l.take j)).length+(placesD l[j]).length<=(placessD l).length:=by
 have e:placessD l=placessD (l.take (j+1))++placessD (l.drop (j+1)):=by
  rw[placessD_flat,placessD_flat,placessD_flat,<-List.flatMap_append,gF]
 rw[e,bD,placessD_snoc hj,bD];omega
def OwnI(W:World)(base:Nat)(v:Value)(l:List Int):Prop:=W.ownsRow base 3 1 v l.length (l.flatMap fun t=>[.int .i64 t])
theorem OwnI.bl{A B:World}{base:Nat}{v:Value}{l:List Int}(h:OwnI A base v l)(hb:Bl A B):OwnI B base v l:=gY hb h
theorem OwnI.ints{W:World}{base:Nat}{v:Value}{l:List Int}(h:OwnI W base v l):Ints W.heap.size W v l:=by
 obtain⟨hl,h0|⟨g,cap,cur,e,hb,hg,hc,hm,hs,ht⟩⟩:=id h
 ·obtain⟨e,h0⟩:=h0;exact .inl ⟨e,lM h0⟩
 ·obtain⟨a,cap',e',-,hcs⟩:=own_list (fun t:Int=>[Value.int .i64 t]) (fun _=>rfl) h;rw[e] at e';injection e' with e1 e2 e3;subst e1;refine .inr ⟨g,0,cap,e,(aC.1 hg).1,fun j hj=>?_⟩;obtain⟨b,e4,-,-,h5⟩:=hcs j _ (aP hj);injection e4 with e4;injection e4 with e4;subst e4;rw[aP hj,oQ];have:=h5 0 _ rfl;simpa using this
theorem ints_one{W:World}{p:Int}{T:TypeId}{g:Nat}(h:W.heap[g]?=some (.cells #[.int .i64 p] T (0,0))):Ints W.heap.size W (.slice (some ⟨g,0,none⟩) 1 1) [p]:=
 .inr ⟨g,0,1,rfl,(aC.1 h).1,fun j hj=>by
  obtain rfl:j=0:=(by simpa using hj);rw[aG h];rfl⟩
theorem row_but{A B:World}{base b:Nat}{e:TypeId}{size n:Nat}{v:Value}{xs:List Value}(h:A.ownsRow base e size v n xs)(hb:But b A B)(hlt:b<base):B.ownsRow base e size v n xs:=by
 refine⟨h.1,?_⟩;rcases h.2 with h0|⟨g,cap,cur,hv,hgb,hh,r⟩
 ·exact .inl h0
 ·exact .inr ⟨g,cap,cur,hv,hgb,(hb.same g (by omega)).trans hh,r⟩
theorem own_one{A:World}{base:Nat}{e:TypeId}{size n:Nat}{v:Value}{xs:List Value}(h:A.ownsRow base e size v n xs):v.oneCell'=true:=by
 rcases h.2 with⟨h0,-⟩|⟨g,cap,cur,hv,hgb,hh,r⟩
 ·rw[h0];rfl
 ·rw[hv];rfl
theorem own_more{A:World}{base:Nat}{e:TypeId}{size n:Nat}{v:Value}{xs:List Value}(h:A.ownsRow base e size v (n+1) xs):∃g cap,v= .slice (some ⟨g,0,none⟩) (n+1) cap:=by
 rcases h.2 with⟨-,h0⟩|⟨g,cap,cur,hv,-⟩
 ·cases h0
 ·exact⟨g,cap,hv⟩
theorem row_keeps{A B:World}{base size n:Nat}{e:TypeId}{v:Value}{xs:List Value}(h:A.ownsRow base e size v n xs){row:Option Nat}(hg:A.grownBy B row)(hr:∀r,row=some r->∃o:Obj,A.heap[r]?=some o/\o.isCells=false):B.ownsRow base e size v n xs:=by
 refine⟨h.1,?_⟩;rcases h.2 with h0|⟨g,cap,cur,hv,hgb,hh,r⟩
 ·exact .inl h0
 ·refine .inr ⟨g,cap,cur,hv,hgb,(hg.block g (aC.1 hh).1 (fun e=>?_)).trans hh,r⟩;obtain⟨o,ho,hc⟩:=hr g e.symm;rw[hh] at ho;cases ho;cases hc
theorem row_others{A B:World}{base size n:Nat}{e:TypeId}{v:Value}{xs:List Value}(h:A.ownsRow base e size v n xs)(hg:A.grownBy B v.ownBlock):KeepsOthers A B:=
 ⟨hg.size,fun k o hk ho=>(hg.block k (aC.1 hk).1 (fun e=>by
  rcases h.2 with⟨h0,-⟩|⟨g,cap,cur,hv,hgb,hh,r⟩
  ·rw[h0] at e;cases e
  ·rw[hv] at e;injection e with e;subst e;rw[hh] at hk;cases hk;cases ho)).trans hk⟩
theorem but_others{b:Nat}{A B:World}(h:But b A B){cs:Array Value}{t:TypeId}{z:Nat×Nat}(hx:A.heap[b]?=some (.cells cs t z)):KeepsOthers A B:=
 ⟨by rw[h.size];exact aH _,fun k o hk ho=>(h.same k (fun e=>by subst e;rw[hx] at hk;cases hk;cases ho)).trans hk⟩
theorem append_ints{ops:Array Oper}{rest:List Oper}{o:Oper}{a:Act}{w:World}{Q:Exit->Act->World->Prop}(hgd:o.guard=none)(s x:Operand)(ho:o.op= .call {callee:= .builtin .append,args:= #[s,x],argTypes:= #[53,53]})
  (base:Nat) (v:Value) (l:List Int) (hs:a.eval s=v) (hown:OwnI w base v l) (m:List Int) {xv:Value} (hx:a.eval x=xv) (hI:Ints w.heap.size w xv m) (hfew:l.length+m.length<=1000000) (hbase:base<=w.heap.size)
  (h:∀v' w',OwnI w' base v' (l++m)->w.grownBy w' v.ownBlock->(v'.ownBlock=v.ownBlock\/v'.ownBlock=some w.heap.size)->wpList Tryz.prog ops Q rest (a.put o.dst v') w'):wpList Tryz.prog ops Q (o::rest) a w:=by
 obtain⟨i,hi,hz0,hz1,hz2⟩:∃i,Tryz.prog.info? 3=some i/\i.zero=some (.int .i64 0)/\i.size=1/\i.bytes=8:=by
  have hT:=intFull;cases hi:Tryz.prog.info? 3 with
  |none=>rw[hi] at hT;cases hT
  |some i=>
   rw[hi] at hT;simp only[lX,Option.some.injEq,Prod.mk.injEq] at hT;exact⟨i,rfl,hT.1,hT.2.1,hT.2.2⟩
 rcases hI with⟨rfl,rfl⟩|⟨b,off,cap,rfl,hb,hc⟩
 ·exact wpList_append_own_none hgd s x 53 ho base 3 i 1 Tryz.underlying53 hi v l.length _ hs hown hx (h v w (by rw[List.append_nil];exact hown) ⟨rfl,rfl,rfl,aH _,fun _ _ _=>rfl⟩ (.inl rfl))
 ·refine wpList_append_own_at _ hgd s x 53 ho base 3 i (.int .i64 0) 1 8 Tryz.underlying53 hi hz0 hz1 hz2 rfl (by decide) v l.length _ hs hown ⟨b,off,none⟩ m.length cap (m.flatMap fun t=>[.int .i64 t]) hx (by rw[ints_flat];simp) (fun j u hj=>?_) (fun u hu=>?_) (by unfold maxLen;omega) (by omega) hbase (fun v' w' h1 h2 _ h4=>h v' w' ?_ h2 h4)
  ·rw[ints_flat,iJ] at hj;obtain⟨z,hz,rfl⟩:=aT.1 hj;have hl:=(aO.1 hz).1;have h5:=hc j hl;rw[hz] at h5;rw[c0s];exact h5
  ·rw[ints_flat] at hu;obtain⟨z,-,rfl⟩:=List.mem_map.1 hu;rfl
  ·show World.ownsRow _ _ _ _ _ _ _;rw[bD,List.flatMap_append];exact h1
theorem wFields_any{fs:List Fd}(hfs:fs.length<=1000000)(W:World)(fa:Option Addr)(fc:Nat)(hfd:ReadsFd (fun _=>True) W (.slice fa fs.length fc) fs):
  Calls Tryz.prog 35 #[.slice fa fs.length fc] W fun e w'=>e= .returned (.int .i64 (fieldsB fs))/\W=w':=by
 obtain⟨a,cap,e,hc⟩:=hfd;obtain⟨rfl,rfl⟩:fa=a/\fc=cap:=(by simpa using e);have HC:=aB (fun(j:Nat) (hj:j<fs.length)=>hc j _ (aP hj));clear hc e;obtain⟨R,HR⟩:∃R,Hid (fieldsB fs=R):=⟨_,rfl⟩
 rw[HR.o];obtain⟨q,hq⟩:∃q,fs.length=q:=⟨_,rfl⟩
 have HQ:=aB hq;rw[hq] at hfs⊢;clear hq;by_cases h160:160<q
 ·have g:(160:Int)<(q:Int):=by omega
  have HE:=aB (show R=3 from by rw[<-HR.o,fields_zero,if_pos (by rw[HQ.o];exact h160)]);clear h160 HC;go_enter Tryz.func35,Tryz.ntmps35;go_wp2;go_ret;exact⟨by rw[HE.o]<;>rfl,by first |rfl|trivial⟩
 ·have g:¬(160:Int)<(q:Int):=by omega
  have HE:=aB (show R=if fs.any badF then 2 else 0 from by rw[<-HR.o,fields_zero,if_neg (by rw[HQ.o];exact h160)]);clear h160;go_enter Tryz.func35,Tryz.ntmps35;go_wp2_with fail;go_loopw [3] (fun i wr=>∃j:Nat,j<=q/\i= .int .i64 (j:Int)/\Hid (fs.any badF=(fs.drop j).any badF)/\W=wr) (fun i _=>q-(intOf i).toNat)
  case atStart=>exact⟨0,dL _,rfl,rfl,rfl⟩
  case round=>
   obtain⟨j,hj,rfl,HD,rfl⟩:=hrel;by_cases hlt:j<q
   ·obtain⟨b,off,rfl,-,hbl,h3⟩:=HC.o j (by rw[HQ.o];exact hlt);obtain⟨-,-,e2⟩:=threeF h3;have HD2:=aB (HD.o.trans (anyD_drop badF (by rw[HQ.o];exact hlt)));have hlt':(j:Int)<(q:Int):=(by omega);clear h3;generalize fs[j]'(by rw[HQ.o];exact hlt)=y at *;obtain⟨y1,y2,y3⟩:=y;simp only at e2;by_cases h1:y3<1
    ·have HO:=aB (show fs.any badF=true from by rw[HD2.o];simp[badF,h1]);go_wp2;go_ret;exact⟨by rw[HE.o,HO.o]<;>rfl,by first |rfl|trivial⟩
    ·by_cases h4:4<y3
     ·have HO:=aB (show fs.any badF=true from by rw[HD2.o];simp[badF,h4]);go_wp2;go_ret;exact⟨by rw[HE.o,HO.o]<;>rfl,by first |rfl|trivial⟩
     ·have HO:=aB (show fs.any badF=(fs.drop (j+1)).any badF from by rw[HD2.o];simp[badF,h1,h4]);go_wp2;go_roundw
      case rel=>exact⟨j+1,by omega,by go_num,HO.o,by first |rfl|trivial⟩
      case measure=>simp[intOf];omega
   ·obtain rfl:j=q:=by omega
    have HO:=aB (show fs.any badF=false from by rw[HD.o,List.drop_of_length_le (by rw[HQ.o];exact aH _)];rfl);go_wp2;go_ret;exact⟨by rw[HE.o,HO.o]<;>rfl,by first |rfl|trivial⟩
structure PlF(c:Array Value)(W A:World):Prop where
 x:A.heap[W.heap.size]?=some (.cells c 30 (0,0))
 bl:Bl W A
theorem PlF.call{c:Array Value}{W A B:World}(h:PlF c W A)(hb:Bl A B):PlF c W B:=⟨keep_b h.x hb,h.bl.call hb⟩
theorem PlF.start(c:Array Value)(W:World):PlF c W (W.alloc (.cells c 30)):=⟨aN W _,(Bl.refl W).alloc _⟩
theorem wPlaces_step(x:Bd)(hx:partsD x<=1000000)(IH0:∀y∈x.args,∀(W':World) (v:Value),ReadsD W' y v->Calls Tryz.prog 14 #[v] W' fun e w'=>(∃sv,e= .returned sv/\Ints w'.heap.size w' sv (placesD y))/\Bl W' w')(W:World)(v:Value)(hv:ReadsD W x v):
  Calls Tryz.prog 14 #[v] W fun e w'=>(∃sv,e= .returned sv/\Ints w'.heap.size w' sv (placesD x))/\Bl W w':=by
 have IH:=aB IH0;clear IH0;obtain⟨sv,rfl,hL⟩:=hv;obtain⟨a,cap,rfl,hc⟩:=hL.shape;have HC:=aB hc;clear hc hL;obtain⟨k,t,⟨v1,v2,v3⟩,p,o,n,args⟩:=x;simp only[Bd.k,Bd.t,Bd.v,Bd.p,Bd.o,Bd.n,Bd.args] at *;simp only[partsD] at hx;have hln:=partssD_len args;have HPL:=aB (fun(j:Nat) (h:j<args.length)=>jH (placessD_take h) (show partssD args<=1000000 by omega));obtain⟨R,HR⟩:∃R,Hid (placesD (.mk k t (v1,v2,v3) p o n args)=R):=⟨_,rfl⟩
 rw[HR.o];obtain⟨m,hm⟩:∃m,args.length=m:=⟨_,rfl⟩
 have HM:=aB hm;have hlen:m<=1000000:=(by omega);rw[hm];clear hm hln hx;have HF:=aB (PlF.start (cellsB k t v1 v2 v3 p o n (.slice a m cap)) W);by_cases h2:k=2
 ·have HE:=aB (show R=[p] from by rw[<-HR.o];simp only[placesD];rw[if_pos h2]);have g2:(k==2)=true:=(by simpa using h2);clear h2 IH HC HPL;go_enter Tryz.func14,Tryz.ntmps14;go_wp2;go_ret;refine⟨⟨_,rfl,?_⟩,HF.o.bl.alloc _⟩;rw[HE.o];exact ints_one (aV _ _ (by simp))
 ·have HE:=aB (show R=placessD args from by rw[<-HR.o];simp only[placesD];rw[if_neg h2]);have g2:(k==2)=false:=(by simpa using h2);clear h2;go_enter Tryz.func14,Tryz.ntmps14;go_wp2_with fail;go_loopw [3,4] (fun sv i wr=>∃(j:Nat) (v0:Value),v0=sv/\j<=m/\i= .int .i64 (j:Int)/\Hid (OwnI wr (W.heap.size+1) v0 (placessD (args.take j)))/\Hid (PlF (cellsB k t v1 v2 v3 p o n (.slice a m cap)) W wr)) (fun _ i _=>m-(intOf i).toNat)
  case atStart=>exact⟨0,_,rfl,dL _,rfl,d2l _ _ _ _,HF.o⟩
  case round=>
   clear HF;obtain⟨j,v0,rfl,hj,rfl,HO,HF⟩:=hrel;obtain⟨g0,g1,g2,g3,g4,g5,g6,g7,g8⟩:=nine HF.o.x;by_cases hlt:j<m
   ·obtain⟨b,off,s,rfl,-,hbl,h9,hr⟩:=HC.o j (by rw[HM.o];exact hlt);have HY:=aB (IH.o _ (dS (by rw[HM.o];exact hlt:j<args.length)));have HSN:=aB (placessD_snoc (show j<args.length by rw[HM.o];exact hlt));have HPJ:=aB (HPL.o j (by rw[HM.o];exact hlt));have HR':=aB (hr.bl HF.o.bl);obtain⟨e0,e1,e2,e3,e4,e5,e6,e7,e8⟩:=(h9.keep (HF.o.bl.block b hbl)).nine;clear h9 hr;generalize hy:args[j]'(by rw[HM.o];exact hlt)=y at *;clear hy;obtain⟨k',t',⟨v1',v2',v3'⟩,p',o',n',args'⟩:=y;simp only[Bd.k,Bd.t,Bd.v,Bd.p,Bd.o,Bd.n] at e0 e1 e2 e3 e4 e5 e6 e7;have HRE:=aB (show ReadsD wr (.mk k' t' (v1',v2',v3') p' o' n' args') (BdV k' t' (v1',v2',v3') p' o' n' s) from⟨s,rfl,HR'.o⟩);have hlt':(j:Int)<(m:Int):=(by omega);go_wp2_with fail;refine(HY.o _ _ HRE.o).mono ?_;rintro e w1 ⟨⟨sv,rfl,hI⟩,hb1⟩;generalize placesD (.mk k' t' (v1',v2',v3') p' o' n' args')=ys at *;have HF1:=aB (HF.o.call hb1);have HO1:=aB (HO.o.bl hb1);have HI:=aB hI;have hsz1:W.heap.size+1<=w1.heap.size:=(by have:=(aC.1 HF1.o.x).1;omega);clear hI hb1 HO HF HRE HY HR' e0 e1 e2 e3 e4 e5 e6 e7 e8 g0 g1 g2 g3 g4 g5 g6 g7 g8;go_wp2_with (at_builtin;refine append_ints rfl (.tmp 18) (.tmp 24) rfl (W.heap.size+1) v0 (placessD (args.take j)) rfl HO1.o ys rfl HI.o HPJ.o hsz1 ?_)
    intro v' w2 hown2 hg2 hat;have hlow:=HO1.o.lt;have HF2:=aB (show PlF (cellsB k t v1 v2 v3 p o n (.slice (some ⟨b,off,none⟩) m cap)) W w2 from⟨(hg2.block _ (by omega) (fun e=>by have:=(hlow _ e.symm).1;omega)).trans HF1.o.x,iL HF1.o.bl hg2 (by omega) (fun i hi=>by have:=(hlow i hi).1;omega)⟩);have HO2:=aB (show OwnI w2 (W.heap.size+1) v' (placessD (args.take (j+1))) from by rw[HSN.o];exact hown2);clear hown2 hg2 hat hlow HO1 HF1 HI;go_wp2;go_roundw
    case rel=>exact⟨j+1,_,rfl,by omega,by go_num,HO2.o,HF2.o⟩
    case measure=>simp[intOf];omega
   ·obtain rfl:m=j:=by omega
    have HI:=aB HO.o.ints;have HA:=aB (show placessD (args.take m)=R from by rw[HE.o,jS (by rw[HM.o];exact aH _)]);have hge:¬((m:Int)<(m:Int)):=(by omega);clear HC IH;go_wp2;go_ret;exact⟨⟨_,rfl,by rw[<-HA.o];exact HI.o⟩,HF.o.bl⟩
theorem wPlaces_any:∀(n:Nat) (x:Bd),partsD x<=n->n<=1000000->∀(W:World) (v:Value),ReadsD W x v->Calls Tryz.prog 14 #[v] W fun e w'=>(∃sv,e= .returned sv/\Ints w'.heap.size w' sv (placesD x))/\Bl W w'
 |0,x,h,_,_,_,_=>by have:=partsD_pos x;omega
 |n+1,x,h,hn,W,v,hv=>wPlaces_step x (by omega) (fun y hy W' v hv=>wPlaces_any n y (by have:=partsD_arg hy;omega) (by omega) W' v hv) W v hv
end
end Go.Proofs.YtkimpcmkminffaaGreatDoor
