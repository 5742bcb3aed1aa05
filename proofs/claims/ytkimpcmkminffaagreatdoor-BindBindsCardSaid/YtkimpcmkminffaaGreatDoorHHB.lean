/- Texts beside the shared ones. -/
import Derived.Test.YtkimpcmkminffaaGreatDoorHX0
import Derived.Test.YtkimpcmkminffaaGreatDoorHHA
namespace Go.Proofs.YtkimpcmkminffaaGreatDoor
open Go.RowKit
open _root_.Go.Act renaming put->aK
open _root_.Array renaming getElem?_eq_some_iff->aC
open _root_.Go.RowKit.Below renaming grown->iL
open _root_.Bool renaming true_and->rC
open _root_.Go.Lib renaming hid->aB
open _root_.List renaming cons_append->bE,getElem?_eq_getElem->aP,getElem_mem->dS,length_append->bD,length_cons->aX,length_map->mD,length_nil->bL,map_append->kW,mem_append->iX,mem_singleton->gQ,nil_append->cB,setIfInBounds_toArray->aA,set_cons_succ->aF,set_cons_zero->aD,take_of_length_le->jS
open _root_.Nat renaming le_refl->aH,zero_add->gD,zero_le->dL
open NoPanic renaming normal->bF
open _root_.Go.World renaming block_lt_of_cell?->bB,ownsRow_nil->d2l,size_alloc->aR
set_option maxRecDepth 100000
set_option maxHeartbeats 16000000
section
theorem find_snoc{x:Ex}:∀(l:List Fd) (i:Nat) (f:Fd),findFd x i (l++[f])=findFd x i l++(if isFd x f then[(i+l.length,f)] else[])
 |[],i,f=>by
  simp only[cB,findFd,bL,Nat.add_zero]
 |g::r,i,f=>by
  simp only[bE,findFd,aX];rw[find_snoc r (i+1) f,show i+1+r.length=i+(r.length+1) by omega];by_cases hg:isFd x g=true
  ·rw[if_pos hg,if_pos hg,bE]
  ·rw[if_neg hg,if_neg hg]
def lastFd(l:List (Nat×Fd)):Int×Int:=match l.getLast? with
 |none=>(0,0)
 |some p=>((p.1:Int),p.2.t)
theorem find_take{x:Ex}{fs:List Fd}{j:Nat}(hj:j<fs.length):(isFd x fs[j]=true->findFd x 0 (fs.take (j+1))=findFd x 0 (fs.take j)++[(j,fs[j])])/\(isFd x fs[j]=false->findFd x 0 (fs.take (j+1))=findFd x 0 (fs.take j)):=by
 rw[takeD_snoc fs hj,find_snoc];have hl:(fs.take j).length=j:=(by rw[List.length_take];omega);rw[hl,gD];refine⟨fun h=>by rw[if_pos h],fun h=>by rw[if_neg (by rw[h];decide),List.append_nil]⟩
theorem find_len{x:Ex}:∀(l:List Fd) (i:Nat),(findFd x i l).length<=l.length
 |[],_=>aH _
 |g::r,i=>by
  have:=find_len (x:=x) r (i+1);simp only[findFd];split
  ·simp only[aX];omega
  ·simp only[aX];omega
theorem bindW_col{fs:List Fd}{v:Vl}{t n:List UInt8}{o:Int}{args:List Ex}{l:List Bd}(h:seqD (args.map (bindD fs))=(l,0))(F:List (Nat×Fd))(hF:findFd (.mk 2 v t n o args) 0 fs=F):
  (F.length=0->bindD fs (.mk 2 v t n o args)=(zeroD,300))/\(1<F.length->bindD fs (.mk 2 v t n o args)=(zeroD,301))/\(F.length=1->bindD fs (.mk 2 v t n o args)=(.mk 2 (lastFd F).2 v (lastFd F).1 o [] l,0)):=by
 simp only[bindD];rw[binds_seq,h];simp only[ne_eq,not_true_eq_false,if_false,if_true,hF]
 match F with
 |[]=>exact⟨fun _=>rfl,fun h=>by simp at h,fun h=>by simp at h⟩
 |[(i,f)]=>exact⟨fun h=>by simp at h,fun h=>by simp at h,fun _=>rfl⟩
 |_::_::_=>exact⟨fun h=>by simp at h,fun _=>rfl,fun h=>by simp at h⟩
theorem bindW_oth{fs:List Fd}{k:Int}{v:Vl}{t n:List UInt8}{o:Int}{args:List Ex}{l:List Bd}(h:seqD (args.map (bindD fs))=(l,0))(hk:k≠2)(nm:List UInt8)(hn:k=5->nm=n)(hn':k≠5->nm=[]):
  bindD fs (.mk k v t n o args)=if(typeD k o 0 v nm l).2=0 then(.mk k (typeD k o 0 v nm l).1 v 0 o nm l,0) else(zeroD,(typeD k o 0 v nm l).2):=by
 obtain rfl:nm=if k=5 then n else[]:=by
  by_cases h5:k=5
  ·rw[if_pos h5];exact hn h5
  ·rw[if_neg h5];exact hn' h5
 simp only[bindD];rw[binds_seq,h];simp only[ne_eq,not_true_eq_false,if_false];rw[if_neg hk];by_cases hz:(typeD k o 0 v (if k=5 then n else[]) l).2=0
 ·rw[if_neg (fun e=>e hz),if_pos hz]
 ·rw[if_pos hz,if_neg hz]
def WbP(r:Bd×Int)(W:World)(e:Ending)(w':World):Prop:=(∃v,e= .returned (.tuple #[v,.int .i64 r.2])/\ReadsDP (fun b=>W.heap.size<=b) w' r.1 v)/\Bl W w'
structure WbF(xc u:List Value)(W A:World):Prop where
 x:A.heap[W.heap.size]?=some (.cells xc.toArray 47 (0,0))
 r:A.heap[W.heap.size+1]?=some (.cells (cellsB 0 0 0 0 [] 0 0 [] (.slice none 0 0)) 30 (0,0))
 u:A.heap[W.heap.size+2]?=some (.cells u.toArray 30 (0,0))
 bl:Bl W A
theorem WbF.call{xc u:List Value}{W A B:World}(h:WbF xc u W A)(hb:Bl A B):WbF xc u W B:=⟨keep_b h.x hb,keep_b h.r hb,keep_b h.u hb,h.bl.call hb⟩
theorem WbF.but{xc u u':List Value}{W A B:World}(h:WbF xc u W A)(hb:But (W.heap.size+2) A B)(hu:B.heap[W.heap.size+2]?=some (.cells u'.toArray 30 (0,0))):WbF xc u' W B:=
 ⟨(hb.same _ (by omega)).trans h.x,(hb.same _ (by omega)).trans h.r,hu,hb.bl h.bl (by omega)⟩
theorem WbF.own{xc u:List Value}{W A B:World}{row:Option Nat}(h:WbF xc u W A)(hg:A.grownBy B row)(hr:∀k,row=some k->W.heap.size+3<=k):WbF xc u W B:=
 have hs:=(aC.1 h.u).1
 ⟨(hg.block _ (by omega) (fun e=>by have:=hr _ e.symm;omega)).trans h.x,(hg.block _ (by omega) (fun e=>by have:=hr _ e.symm;omega)).trans h.r,(hg.block _ (by omega) (fun e=>by have:=hr _ e.symm;omega)).trans h.u,iL h.bl hg h.bl.size (fun k e=>by have:=hr k e;omega)⟩
theorem WbF.start(xc u:List Value)(W:World):WbF xc u W (((W.alloc (.cells xc.toArray 47)).alloc (.cells (cellsB 0 0 0 0 [] 0 0 [] (.slice none 0 0)) 30)).alloc (.cells u.toArray 30)):=
 ⟨keep_b (keep_b (aN W _) ((Bl.refl _).alloc _)) ((Bl.refl _).alloc _),keep_b (aV _ _ (by simp)) ((Bl.refl _).alloc _),aV _ _ (by simp),(((Bl.refl W).alloc _).alloc _).alloc _⟩
theorem WbF.size{xc u:List Value}{W A:World}(h:WbF xc u W A):W.heap.size+3<=A.heap.size:=by have:=(aC.1 h.u).1;omega
theorem WbF.results{xc u:List Value}{k t:Int}{v:Vl}{p o:Int}{n:List UInt8}{s:Value}{W A B:World}{l:List Bd}(h:WbF xc u W A)(hb:But (W.heap.size+1) A B)(hr:ReadsDL (fun b=>W.heap.size+3<=b) A s l):Bl W B/\ReadsDP (fun b=>W.heap.size<=b) B (.mk k t v p o n l) (BdV k t v p o n s):=
 ⟨hb.bl h.bl (by omega),s,rfl,hr.keep (Nat.le_of_eq hb.size.symm) (fun b (h:_<=b)=>by omega) fun b (h:_<=b) _=>hb.same b (by omega)⟩
theorem wbind_step{fs:List Fd}(hfs:fs.length<=1000000)(x:Ex)(hx:fC x<=999999)(fa:Option Addr)(fc:Nat)(IH0:∀y∈x.args,∀(W':World) (v:Value),eO W' y v->ReadsFd (fun _=>True) W' (.slice fa fs.length fc) fs->Calls Tryz.prog 37 #[.slice fa fs.length fc,v] W' (WbP (bindD fs y) W'))(W:World)(v:Value)(hv:eO W x v)(hfd:ReadsFd (fun _=>True) W (.slice fa fs.length fc) fs):
  Calls Tryz.prog 37 #[.slice fa fs.length fc,v] W (WbP (bindD fs x) W):=by
 have IH:=aB (fun(y:Ex) (hy:y∈x.args) (W':World) (v:Value) (hb:Bl W W') (hv:eO W' y v)=>IH0 y hy W' v hv (hfd.bl hb));clear IH0;obtain⟨sv,rfl,hR⟩:=hv;obtain⟨a,cap,rfl,hc⟩:=hR.shape;have HC:=aB hc;have HFD:=aB hfd;clear hc hR hfd;have hbad:=fun(h:(seqD (x.args.map (bindD fs))).2≠0)=>bind_bad (k:=x.k) (v:=x.v) (t:=x.t) (n:=x.n) (o:=x.o) h;have hcol:=fun(l:List Bd) (h:seqD (x.args.map (bindD fs))=(l,0))=>bindW_col (v:=x.v) (t:=x.t) (n:=x.n) (o:=x.o) h _ rfl;have hoth:=fun(l:List Bd) (h:seqD (x.args.map (bindD fs))=(l,0)) (hk:x.k≠2) (nm:List UInt8) (hn:x.k=5->nm=x.n) (hn':x.k≠5->nm=[])=>bindW_oth (v:=x.v) (t:=x.t) (n:=x.n) (o:=x.o) h hk nm hn hn';have hpl:=binds_parts fs x.args;have hpx:fF x.args<=999999:=(by cases x;simp only[fC,Ex.args] at hx⊢;omega);obtain⟨k,⟨v1,v2,v3⟩,t,n,o,args⟩:=x;simp only[Ex.k,Ex.t,Ex.v,Ex.o,Ex.n,Ex.args] at *;have hfew:args.length<=1000000:=by
  have:args.length<=fF args:=by
   clear IH HC hbad hcol hoth hpl hpx hx
   induction args with
   |nil=>simp
   |cons z r ih=>
    have:=oM z;simp only[fF,aX];omega
  omega
 obtain⟨Z,HZ⟩:∃Z,Hid (bindD fs (.mk k (v1,v2,v3) t n o args)=Z):=⟨_,rfl⟩
 rw[HZ.o];obtain⟨R,HR⟩:∃R,Hid (seqD (args.map (bindD fs))=R):=⟨_,rfl⟩
 have HBADZ:=aB (fun(h:R.2≠0)=>(HZ.o.symm.trans (hbad (by rw[HR.o];exact h))).trans (by rw[HR.o]:_=(zeroD,R.2)));have HCOL:=aB hcol;have HOTH:=aB hoth;have HPL:=aB (show partssD R.1<=999999 from by rw[binds_seq,HR.o] at hpl;omega);have hlf:(args.map (bindD fs)).length=args.length:=(by simp);have HF0:=aB (WbF.start (exC8 k v1 v2 v3 t n o (.slice a args.length cap)) (unC9 k 0 v1 v2 v3 0 o [] (.slice none 0 0)) W);clear hbad hcol hoth hpl hpx hx;go_enter Tryz.func37,Tryz.ntmps37;go_wp2_with fail;go_loopw [7] (fun i wr=>∃(j:Nat) (v0:Value) (acc:List (Bd×Value)),j<=args.length/\acc.length=j/\i= .int .i64 (j:Int)/\Hid (acc.map (·.1)=(args.map fun y=>(bindD fs y).1).take j)/\Hid (wr.ownsRow (W.heap.size+3) 30 9 v0 acc.length (acc.flatMap fun q:Bd×Value=>cells9 q.1 q.2))/\Hid (∀q∈acc,ReadsDL (fun b=>W.heap.size+3<=b/\some b≠v0.ownBlock) wr q.2 q.1.args)/\Hid (∀y∈(args.map (bindD fs)).take j,y.2=0)/\Hid (WbF (exC8 k v1 v2 v3 t n o (.slice a args.length cap)) (unC9 k 0 v1 v2 v3 0 o [] v0) W wr)) (fun i _=>args.length-(intOf i).toNat)
 case atStart=>exact⟨0,_,[],dL _,rfl,rfl,rfl,d2l _ _ _ _,aB (fun q hq=>by cases hq),aB (fun y hy=>by simp at hy),HF0.o⟩
 case round=>
  clear HF0;obtain⟨j,v0,acc,hj,hal,rfl,HAC,HO,HTR,HOK,HF⟩:=hrel;obtain⟨x0,x1,x2,x3,x4,x5,x6,x7⟩:=cells_x HF.o.x;by_cases hlt:j<args.length
  ·clear HCOL HOTH HPL HFD;obtain⟨b,off,s,rfl,h8,hr⟩:=HC.o j hlt;have hbl:b<W.heap.size:=(by have:=bB _ _ h8.1;simpa using this);have HM:=aB (dS hlt);have HJ:=aB (show(args.map (bindD fs))[j]'(by simpa using hlt)=bindD fs args[j] from by simp);have HSN:=aB (show(args.map fun y=>(bindD fs y).1).take (j+1)=(args.map fun y=>(bindD fs y).1).take j++[(bindD fs args[j]).1] from by
    rw[takeD_snoc (args.map fun y=>(bindD fs y).1) (by simpa using hlt),List.getElem_map])
   have HBAD:=aB (fun h=>seqD_bad (l:=args.map (bindD fs)) (j:=j) (by simpa using hlt) HOK.o h);have HGO:=aB (fun(h:(bindD fs args[j]).2=0)=>(show ∀y∈(args.map (bindD fs)).take (j+1),y.2=0 from fun y hy=>by
    rw[takeD_snoc (args.map (bindD fs)) (by simpa using hlt)] at hy;rcases iX.1 hy with hy|hy
    ·exact HOK.o y hy
    ·rw[gQ.1 hy,List.getElem_map];exact h))
   rw[HJ.o,HR.o] at HBAD;obtain⟨asl,cs,rfl,-⟩:=hr.shape;have HRR:=aB (hr.bl HF.o.bl);obtain⟨e0,e1,e2,e3,e4,e5,e6,e7⟩:=At8.keep h8 (HF.o.bl.block b hbl);have HFY:=aB (IH.o _ HM.o wr);clear h8 hr HJ HM;generalize hy:args[j]=y at *;clear hy;generalize bindD fs y=ry at *;obtain⟨⟨k',t',⟨v1',v2',v3'⟩,p',o',n',args'⟩,c⟩:=ry;obtain⟨xk,⟨y1,y2,y3⟩,xt,xn,xo,xa⟩:=y;simp only[Ex.k,Ex.t,Ex.v,Ex.o,Ex.n] at e0 e1 e2 e3 e4 e5 e6 e7 HRR;have HCL:=aB (HFY.o (EV xk (y1,y2,y3) xt xn xo (.slice asl xa.length cs)) HF.o.bl ⟨_,rfl,HRR.o⟩);have hlt':(j:Int)<(args.length:Int):=(by omega);clear HFY HRR;go_wp2_with fail;refine HCL.o.mono ?_;rintro e w1 ⟨⟨v',rfl,hrd⟩,hb1⟩;have hsz0:=HF.o.size;obtain⟨s',rfl,hrl⟩:=hrd;simp only[Bd.args] at hrl;simp only[Bd.k,Bd.t,Bd.v,Bd.p,Bd.o,Bd.n];obtain⟨sa',sc',rfl,-⟩:=id hrl.shape;have hb2:Bl wr (w1.alloc (.cells (cellsB k' t' v1' v2' v3' p' o' n' (.slice sa' args'.length sc')) 30)):=hb1.alloc _;have HF2:=aB (HF.o.call hb2);have HX2:=aB (aN w1 (.cells (cellsB k' t' v1' v2' v3' p' o' n' (.slice sa' args'.length sc')) 30));have HO2:=aB (gY hb2 HO.o);have HTR2:=aB (show ∀q∈acc,ReadsDL (fun b=>W.heap.size+3<=b/\some b≠v0.ownBlock) (w1.alloc (.cells (cellsB k' t' v1' v2' v3' p' o' n' (.slice sa' args'.length sc')) 30)) q.2 q.1.args from fun q hq=>(HTR.o q hq).bl hb2);have hlow:=aB HO.o.lt;have HZ3:=aB (show ReadsDL (fun b=>W.heap.size+3<=b/\some b≠v0.ownBlock) (w1.alloc (.cells (cellsB k' t' v1' v2' v3' p' o' n' (.slice sa' args'.length sc')) 30)) (.slice sa' args'.length sc') args' from(hrl.of fun b hl (hb:_<=b)=>⟨by omega,fun e=>by have:=(hlow.o b e.symm).2;omega⟩).bl ((Bl.refl w1).alloc _));clear hb1 hb2 hrl e0 e1 e2 e3 e4 e5 e6 e7 HCL x0 x1 x2 x3 x4 x5 x6 x7 HF HO HTR;obtain⟨n1,hn1⟩:∃n1,w1.heap.size=n1:=⟨_,rfl⟩
   go_upto_region 6 with fail
   obtain⟨u,hu⟩:∃u,w1.alloc (.cells (cellsB k' t' v1' v2' v3' p' o' n' (.slice sa' args'.length sc')) 30)=u:=⟨_,rfl⟩
   change Code.wp _ _ _ _ (w1.alloc (.cells (cellsB k' t' v1' v2' v3' p' o' n' (.slice sa' args'.length sc')) 30));rw[hu] at HF2 HX2 HO2 HTR2 HZ3⊢
   try rw[hn1] at HX2
   try rw[hn1]
   clear hu hn1;by_cases hc0:c=0
   ·have q1:(c != 0)=false:=by simpa using hc0
    have HG2:=aB (HGO.o hc0);clear hc0 HGO HBAD;obtain⟨x0,x1,x2,x3,x4,x5,x6,x7⟩:=cells_x HF2.o.x;obtain⟨u0,u1,u2,u3,u4,u5,u6,u7,u8⟩:=nine HF2.o.u;obtain⟨b0,b1,b2,b3,b4,b5,b6,b7,b8⟩:=nine HX2.o;go_wp2_with (first |(refine d8l (vs:=[.int .i64 k',.int .i64 t',.int .i64 v1',.int .i64 v2',S v3',.int .i64 p',.int .i64 o',S n',.slice sa' args'.length sc']) rfl (t:=28) (y:= .tmp 43) rfl Tryz.underlying28 rfl bd1 rfl ?_)|(at_builtin;refine wpList_append_row rfl (.tmp 42) (.tmp 44) rfl bdFull Tryz.underlying28 rfl (by decide) (by decide) (W.heap.size+3) v0 acc.length _ rfl (gY ((Bl.refl u).alloc _) HO2.o) u.heap.size [.int .i64 k',.int .i64 t',.int .i64 v1',.int .i64 v2',S v3',.int .i64 p',.int .i64 o',S n',.slice sa' args'.length sc'] rfl (aN u _) rfl rfl (by omega) (by have:=HF2.o.size;rw[aR];omega) ?_))
    intro v2 w2 hown2 hg2 hat;obtain⟨g2,cap2,rfl⟩:=own_more hown2;have HF3:=aB ((HF2.o.call ((Bl.refl u).alloc (.cells (cellsB k' t' v1' v2' v3' p' o' n' (.slice sa' args'.length sc')) 30))).own hg2 (fun i hi=>(hlow.o i hi).1));have HTR3:=aB (show ∀q∈acc++[(Bd.mk k' t' (v1',v2',v3') p' o' n' args',Value.slice sa' args'.length sc')],ReadsDL (fun b=>W.heap.size+3<=b/\some b≠(Value.slice (some ⟨g2,0,none⟩) (j+1) cap2).ownBlock) w2 q.2 q.1.args from fun q hq=>by rcases iX.1 hq with hq|hq;exact((HTR2.o q hq).bl ((Bl.refl _).alloc _)).own hg2 (by simpa using hat);obtain rfl:=gQ.1 hq;exact(HZ3.o.bl ((Bl.refl _).alloc _)).own hg2 (by simpa using hat));have HO3:=aB (show w2.ownsRow (W.heap.size+3) 30 9 (.slice (some ⟨g2,0,none⟩) (j+1) cap2) (acc++[(Bd.mk k' t' (v1',v2',v3') p' o' n' args',Value.slice sa' args'.length sc')]).length ((acc++[(Bd.mk k' t' (v1',v2',v3') p' o' n' args',Value.slice sa' args'.length sc')]).flatMap fun q:Bd×Value=>cells9 q.1 q.2) from by rw[bD,List.flatMap_append,hal];exact hown2);have HAC2:=aB (show(acc++[(Bd.mk k' t' (v1',v2',v3') p' o' n' args',Value.slice sa' args'.length sc')]).map (·.1)=(args.map fun y=>(bindD fs y).1).take (j+1) from by rw[HSN.o,kW,HAC.o];rfl);clear hown2 hg2 hat HO2 HTR2 HZ3 HF2 HX2 x0 x1 x2 x3 x4 x5 x6 x7 u0 u1 u2 u3 u4 u5 u6 u7 u8 b0 b1 b2 b3 b4 b5 b6 b7 b8;go_wp2_with (refine bA (g:=W.heap.size+2) (i:=8) rfl rfl rfl rfl (unC9 k 0 v1 v2 v3 0 o [] (.slice (some ⟨g2,0,none⟩) (j+1) cap2)) HF3.o.u rfl rfl slInfo rfl ?_)
    intro w3 hB3 hX3;have HF4:=aB (HF3.o.but hB3 hX3);have HO4:=aB (row_but HO3.o hB3 (by omega));have HTR4:=aB (fun q hq=>(HTR3.o q hq).keep (r:=fun b=>W.heap.size+3<=b/\some b≠(Value.slice (some ⟨g2,0,none⟩) (j+1) cap2).ownBlock) (Nat.le_of_eq hB3.size.symm) (fun _ h=>h) fun b h _=>hB3.same b (by have:=h.1;omega));clear hB3 hX3 HF3 HO3 HTR3;go_wp2;go_roundw
    case rel=>exact⟨j+1,_,acc++[(Bd.mk k' t' (v1',v2',v3') p' o' n' args',Value.slice sa' args'.length sc')],by omega,by rw[bD,hal];rfl,by go_num,HAC2.o,HO4.o,HTR4.o,HG2.o,HF4.o⟩
    case measure=>simp[intOf];omega
   ·have q1:(c != 0)=true:=by simpa using hc0
    have HR2:=aB (show R=([],c) from HBAD.o hc0);have HZ2:=aB (show Z=(zeroD,c) from(HBADZ.o (by rw[HR2.o];exact hc0)).trans (by rw[HR2.o]));clear hc0 HGO HBAD;go_wp2_with (refine bA (g:=W.heap.size+1) (i:=0) rfl rfl rfl rfl (unC9 0 0 0 0 [] 0 0 [] (.slice none 0 0)) (HF2.o).r rfl rfl bdInfo rfl ?_)
    intro w9 hB9 hX9;obtain⟨q0,q1,q2,q3,q4,q5,q6,q7,q8⟩:=nine hX9;go_wp2;refine bodyPost_ret (v:= .tuple #[BdV 0 0 zVl 0 0 [] (.slice none 0 0),.int .i64 c]) (by simp[results,Tryz.results37,go_sem,q0,q1,q2,q3,q4,q5,q6,q7,q8,zVl]) rfl ⟨?_,hB9.bl (HF2.o).bl (by omega)⟩;exact⟨_,by rw[HZ2.o],by rw[HZ2.o];exact zero_readsD _ _⟩
  ·obtain rfl:j=args.length:=by omega
   have HAL:=aB (show ∀y∈args.map (bindD fs),y.2=0 from fun y hy=>HOK.o y (by rw[jS (by simp)];exact hy));have HR2:=aB (show R=(args.map fun y=>(bindD fs y).1,0) from(HR.o.symm.trans (seqD_ok HAL.o)).trans (by rw[List.map_map];rfl));have HV:Hid (ReadsDL (fun b=>W.heap.size+3<=b) wr v0 (args.map fun y=>(bindD fs y).1)):=by
    have h:=own_bounds HO.o (fun q hq=>(HTR.o q hq).of fun b _ hb=>hb.1);rw[HAC.o,jS (by simp)] at h;exact h
   have HL1:Hid ((args.map fun y=>(bindD fs y).1).length=args.length):=mD ..;have hge:¬((args.length:Int)<(args.length:Int)):=(by omega);clear HO HOK HAL HC IH HTR HAC;generalize (args.map fun y=>(bindD fs y).1)=l1 at *;obtain⟨sa,sc,rfl,-⟩:=HV.o.shape;have hpl:partssD l1<=999999:=(by have:=HPL.o;rw[HR2.o] at this;exact this);by_cases hk:k=2
   ·have g2:(k==2)=true:=by simpa using hk
    have HCC:=aB (show _/\_/\_ from HCOL.o l1 (HR.o.trans HR2.o));clear HOTH HBADZ HPL HR HCOL;subst hk;rw[HZ.o] at HCC;have HZZ:=aB (fun(q:Nat) (h:fs.length=q) (F:List (Nat×Fd)) (hF:findFd (.mk 2 (v1,v2,v3) t n o args) 0 (fs.take q)=F)=>(show(F.length=0->Z=(zeroD,300))/\(1<F.length->Z=(zeroD,301))/\(F.length=1->Z=(.mk 2 (lastFd F).2 (v1,v2,v3) (lastFd F).1 o [] l1,0)) from by
     rw[jS (by omega)] at hF;have h:=HCC.o;rw[hF] at h;exact h))
    have HFX:Hid (∀j,(h:j<fs.length)->∃b off,fa=some ⟨b,off,none⟩/\b<W.heap.size/\d2k W b (off+j * 3) (cellsF fs[j])):=fun j hj=>by
     obtain⟨a',cap',e,h⟩:=HFD.o;obtain⟨rfl,rfl⟩:fa=a'/\fc=cap':=(by simpa using e);obtain⟨b,off,e1,-,h2,h3⟩:=h j _ (aP hj);exact⟨b,off,e1,h2,h3⟩
    clear HCC HFD;obtain⟨q,hq⟩:∃q,fs.length=q:=⟨_,rfl⟩
    have HQ:=aB hq;rw[hq] at hfs
    try rw[hq]
    clear hq;have HF1:=HF;have HV1:=HV;clear HF HV;go_wp2_with fail;go_loopw [10,11] (fun mn i wc=>∃(j:Nat) (F:List (Nat×Fd)),j<=q/\i= .int .i64 (j:Int)/\mn= .int .i64 (F.length:Int)/\F.length<=j/\Hid (findFd (.mk 2 (v1,v2,v3) t n o args) 0 (fs.take j)=F)/\Hid (WbF (exC8 2 v1 v2 v3 t n o (.slice a args.length cap)) (unC9 2 (lastFd F).2 v1 v2 v3 (lastFd F).1 o [] (.slice sa l1.length sc)) W wc)/\Hid (ReadsDL (fun b=>W.heap.size+3<=b) wc (.slice sa l1.length sc) l1)) (fun _ i _=>q-(intOf i).toNat)
    case atStart=>exact⟨0,[],dL _,rfl,rfl,aH _,by simp[Hid,findFd],HF1.o,HV1.o⟩
    case round=>
     clear HF1 HV1 x0 x1 x2 x3 x4 x5 x6 x7;obtain⟨j,F,hj,rfl,rfl,hFl,HFF,HF,HV⟩:=hrel;obtain⟨x0,x1,x2,x3,x4,x5,x6,x7⟩:=cells_x HF.o.x;by_cases hlt:j<q
     ·obtain⟨b,off,rfl,hbl,h3⟩:=HFX.o j (by rw[HQ.o];exact hlt);obtain⟨f0,f1,f2⟩:=threeF (h3.keep (HF.o.bl.block b hbl));obtain⟨hy1,hy2⟩:=find_take (x:= .mk 2 (v1,v2,v3) t n o args) (show j<fs.length by rw[HQ.o];exact hlt);rw[HFF.o] at hy1 hy2;have HW2:=aB (threeF h3);clear h3;generalize fs[j]'(by rw[HQ.o];exact hlt)=y at *;obtain⟨y1,y2,y3⟩:=y;simp only[isFd,Ex.n,Ex.t] at hy1 hy2 HW2 f0 f1 f2;have hlt':(j:Int)<(q:Int):=(by omega);have HY1:=aB hy1;have HY2:=aB hy2;clear hy1 hy2;by_cases hn:y2=n
      ·have gn:(y2==n)=true:=by simpa using hn
       rw[gn,rC] at HY1 HY2;clear hn;by_cases ht:t=[]
       ·have gt:(t==[])=true:=by simpa using ht
        have HN:=aB (HY1.o (by rw[gt];rfl));clear ht HY1 HY2;go_wp2_with fail
        go_quiet (fail)
        go_upto_region 16 with fail
        obtain⟨wq,hwq⟩:∃u,wr.drewN nq=u:=⟨_,rfl⟩
        have HF2:=aB (HF.o.call (Bl.drewN wr nq));have HV2:=aB (HV.o.bl (Bl.drewN wr nq));change Code.wp _ _ _ _ (wr.drewN nq);rw[hwq] at HF2 HV2⊢;clear hwq HF HV f0 f1 f2 x0 x1 x2 x3 x4 x5 x6 x7;refine wp_region_noPanic (bM (fun B=>Bl W B) ((.take 0 (.take 1 (.take 2 (.take 3 (.take 4 (.take 5 (.take 6 (.one 7 (.take 8 (.one 9 .done))))))))))) (by kernel_rfl) (by kernel_rfl) (by kernel_rfl) (fun _ _ _ _ _ h=>h) ((HF2.o.bl.call ((Bl.refl _).drew))) ?_);intro wd HWD hY;iterate 7 (refine aI rfl (by rfl) (by intro w hSw;(try dsimp only at hSw);have xt:=Bl.cell hSw HW2.o.2.2;go_simp;(try(first |with_reducible rfl|rfl))) ?_;(try simp only[aK,aA,aD,aF]))
        refine aL rfl (fun K hK=>?_);rw[if_pos (by rfl)];refine bC rfl rfl rfl ((unC9 2 (lastFd F).2 v1 v2 v3 j o [] (.slice sa l1.length sc))) (HF2.o.call HWD.o).u rfl rfl inInfo rfl ?_;intro w7 hB7 hX7;refine hK.o _ _ ((hB7.bl hY (by omega))) ?_;clear hY hK K;intro hY;(try simp only[aK])
        refine aI rfl (by rfl) (by intro w hSw;(try dsimp only at hSw);have xt:=Bl.cell hSw HW2.o.2.2;go_simp;(try(first |with_reducible rfl|rfl))) ?_;(try simp only[aK,aA,aD,aF])
        refine aL rfl (fun K hK=>?_);rw[if_pos (by rfl)];refine bC rfl rfl rfl ((unC9 2 y3 v1 v2 v3 j o [] (.slice sa l1.length sc))) hX7 rfl rfl tyInfo1 rfl ?_;intro w8 hB8 hX8;refine hK.o _ _ ((hB8.bl hY (by omega))) ?_;clear hY hK K;intro hY;(try simp only[aK])
        refine fO (bF ?_);have HF8:=aB (((HF2.o.call HWD.o).but hB7 hX7).but hB8 hX8);have HV8:=aB (((HV2.o.bl HWD.o).keep (r:=fun b=>W.heap.size+3<=b) (Nat.le_of_eq hB7.size.symm) (fun b h=>h) fun b (h:_<=b) _=>hB7.same b (by omega)).keep (r:=fun b=>W.heap.size+3<=b) (Nat.le_of_eq hB8.size.symm) (fun b h=>h) fun b (h:_<=b) _=>hB8.same b (by omega));have HL8:Hid (lastFd (F++[(j,(⟨y1,y2,y3⟩:Fd))])=((j:Int),y3)):=(by show _=_;simp[lastFd]);go_wp2;go_roundw
        case rel=>exact⟨j+1,F++[(j,(⟨y1,y2,y3⟩:Fd))],by omega,by go_num,by rw[bD];go_num,by rw[bD];simp;omega,HN.o,by rw[HL8.o];exact HF8.o,HV8.o⟩
        case measure=>simp[intOf];omega
       ·have gt:(t==[])=false:=by simpa using ht
        rw[gt,Bool.false_or] at HY1 HY2;clear ht;by_cases hb:y1=t
        ·have gb:(y1==t)=true:=by simpa using hb
         have HN:=aB (HY1.o gb);clear hb HY1 HY2;go_wp2_with fail
         go_quiet (fail)
         go_upto_region 16 with fail
         obtain⟨wq,hwq⟩:∃u,wr.drewN nq=u:=⟨_,rfl⟩
         have HF2:=aB (HF.o.call (Bl.drewN wr nq));have HV2:=aB (HV.o.bl (Bl.drewN wr nq));change Code.wp _ _ _ _ (wr.drewN nq);rw[hwq] at HF2 HV2⊢;clear hwq HF HV f0 f1 f2 x0 x1 x2 x3 x4 x5 x6 x7;refine wp_region_noPanic (bM (fun B=>Bl W B) ((.take 0 (.take 1 (.take 2 (.take 3 (.take 4 (.take 5 (.take 6 (.one 7 (.take 8 (.one 9 .done))))))))))) (by kernel_rfl) (by kernel_rfl) (by kernel_rfl) (fun _ _ _ _ _ h=>h) ((HF2.o.bl.call ((Bl.refl _).drew))) ?_);intro wd HWD hY;iterate 7 (refine aI rfl (by rfl) (by intro w hSw;(try dsimp only at hSw);have xt:=Bl.cell hSw HW2.o.2.2;go_simp;(try(first |with_reducible rfl|rfl))) ?_;(try simp only[aK,aA,aD,aF]))
         refine aL rfl (fun K hK=>?_);rw[if_pos (by rfl)];refine bC rfl rfl rfl ((unC9 2 (lastFd F).2 v1 v2 v3 j o [] (.slice sa l1.length sc))) (HF2.o.call HWD.o).u rfl rfl inInfo rfl ?_;intro w7 hB7 hX7;refine hK.o _ _ ((hB7.bl hY (by omega))) ?_;clear hY hK K;intro hY;(try simp only[aK])
         refine aI rfl (by rfl) (by intro w hSw;(try dsimp only at hSw);have xt:=Bl.cell hSw HW2.o.2.2;go_simp;(try(first |with_reducible rfl|rfl))) ?_;(try simp only[aK,aA,aD,aF])
         refine aL rfl (fun K hK=>?_);rw[if_pos (by rfl)];refine bC rfl rfl rfl ((unC9 2 y3 v1 v2 v3 j o [] (.slice sa l1.length sc))) hX7 rfl rfl tyInfo1 rfl ?_;intro w8 hB8 hX8;refine hK.o _ _ ((hB8.bl hY (by omega))) ?_;clear hY hK K;intro hY;(try simp only[aK])
         refine fO (bF ?_);have HF8:=aB (((HF2.o.call HWD.o).but hB7 hX7).but hB8 hX8);have HV8:=aB (((HV2.o.bl HWD.o).keep (r:=fun b=>W.heap.size+3<=b) (Nat.le_of_eq hB7.size.symm) (fun b h=>h) fun b (h:_<=b) _=>hB7.same b (by omega)).keep (r:=fun b=>W.heap.size+3<=b) (Nat.le_of_eq hB8.size.symm) (fun b h=>h) fun b (h:_<=b) _=>hB8.same b (by omega));have HL8:Hid (lastFd (F++[(j,(⟨y1,y2,y3⟩:Fd))])=((j:Int),y3)):=(by show _=_;simp[lastFd]);go_wp2;go_roundw
         case rel=>exact⟨j+1,F++[(j,(⟨y1,y2,y3⟩:Fd))],by omega,by go_num,by rw[bD];go_num,by rw[bD];simp;omega,HN.o,by rw[HL8.o];exact HF8.o,HV8.o⟩
         case measure=>simp[intOf];omega
        ·have gb:(y1==t)=false:=by simpa using hb
         have HN:=aB (HY2.o gb);clear hb HY1 HY2;go_wp2_with fail
         go_quiet (fail)
         go_wp2;go_roundw
         case rel=>exact⟨j+1,F,by omega,by go_num,rfl,by omega,HN.o,HF.o.call (Bl.drewN _ _),HV.o.bl (Bl.drewN _ _)⟩
         case measure=>simp[intOf];omega
      ·have gn:(y2==n)=false:=by simpa using hn
       have HN:=aB (HY2.o (by rw[gn];rfl));clear hn HY1 HY2;go_wp2_with fail
       go_quiet (fail)
       go_wp2;go_roundw
       case rel=>exact⟨j+1,F,by omega,by go_num,rfl,by omega,HN.o,HF.o.call (Bl.drewN _ _),HV.o.bl (Bl.drewN _ _)⟩
       case measure=>simp[intOf];omega
     ·obtain rfl:q=j:=by omega
      obtain⟨z0,z1,z2⟩:=HZZ.o q HQ.o F HFF.o;have hge2:¬((q:Int)<(q:Int)):=(by omega);obtain⟨u0,u1,u2,u3,u4,u5,u6,u7,u8⟩:=nine HF.o.u;clear HZZ HFF HFX;generalize (lastFd F).1=lp at *;generalize (lastFd F).2=lt at *;generalize F.length=c at *;by_cases h0:c=0
      ·have q0:((c:Int)==0)=true:=by simpa using h0
       have HZ2:=aB (z0 h0);clear h0 z0 z1 z2;go_wp2_with (refine bA (g:=W.heap.size+1) (i:=0) rfl rfl rfl rfl (unC9 0 0 0 0 [] 0 0 [] (.slice none 0 0)) (HF.o).r rfl rfl bdInfo rfl ?_)
       intro w9 hB9 hX9;obtain⟨q0,q1,q2,q3,q4,q5,q6,q7,q8⟩:=nine hX9;go_wp2;refine bodyPost_ret (v:= .tuple #[BdV 0 0 zVl 0 0 [] (.slice none 0 0),.int .i64 300]) (by simp[results,Tryz.results37,go_sem,q0,q1,q2,q3,q4,q5,q6,q7,q8,zVl]) rfl ⟨?_,hB9.bl (HF.o).bl (by omega)⟩;exact⟨_,by rw[HZ2.o],by rw[HZ2.o];exact zero_readsD _ _⟩
      ·have q0:((c:Int)==0)=false:=by simpa using h0
       by_cases h1:1<c
       ·have q1:(1:Int)<(c:Int):=by omega
        have HZ2:=aB (z1 h1);clear h0 h1 z0 z1 z2;go_wp2_with (refine bA (g:=W.heap.size+1) (i:=0) rfl rfl rfl rfl (unC9 0 0 0 0 [] 0 0 [] (.slice none 0 0)) (HF.o).r rfl rfl bdInfo rfl ?_)
        intro w9 hB9 hX9;obtain⟨q0,q1,q2,q3,q4,q5,q6,q7,q8⟩:=nine hX9;go_wp2;refine bodyPost_ret (v:= .tuple #[BdV 0 0 zVl 0 0 [] (.slice none 0 0),.int .i64 301]) (by simp[results,Tryz.results37,go_sem,q0,q1,q2,q3,q4,q5,q6,q7,q8,zVl]) rfl ⟨?_,hB9.bl (HF.o).bl (by omega)⟩;exact⟨_,by rw[HZ2.o],by rw[HZ2.o];exact zero_readsD _ _⟩
       ·have q1:¬(1:Int)<(c:Int):=by omega
        have HZ2:=aB (z2 (by omega));clear h0 h1 z0 z1 z2;go_wp2_with (refine bA (g:=W.heap.size+1) (i:=0) rfl rfl rfl rfl (unC9 (2) (lt) v1 v2 v3 (lp) o ([]) (.slice sa l1.length sc)) (HF.o).r rfl rfl bdInfo rfl ?_)
        intro w9 hB9 hX9;have HR9:=aB ((HF.o).results (k:=2) (t:=lt) (v:=(v1,v2,v3)) (p:=lp) (o:=o) (n:=[]) hB9 (HV.o));obtain⟨q0,q1,q2,q3,q4,q5,q6,q7,q8⟩:=nine hX9;go_wp2;refine bodyPost_ret (v:= .tuple #[BdV (2) (lt) (v1,v2,v3) (lp) o ([]) (.slice sa l1.length sc),.int .i64 0]) (by simp[results,Tryz.results37,go_sem,q0,q1,q2,q3,q4,q5,q6,q7,q8]) rfl ⟨?_,HR9.o.1⟩;exact⟨_,by rw[HZ2.o],by rw[HZ2.o];exact HR9.o.2⟩
   ·have g2:(k==2)=false:=by simpa using hk
    have HZO':=aB (fun nm hn hn'=>HZ.o.symm.trans (HOTH.o l1 (HR.o.trans HR2.o) hk nm hn hn'));clear HOTH HBADZ HPL HR HCOL hk HR2;obtain⟨u0,u1,u2,u3,u4,u5,u6,u7,u8⟩:=nine HF.o.u;by_cases h5:k=5
    ·have g5:(k==5)=true:=by simpa using h5
     have HZO:=aB (HZO'.o n (fun _=>rfl) (fun h=>absurd h5 h));clear h5 HZO';have HTY:Hid (∀(W':World) (sv:Value),Bl W W'->ReadsDL (fun b=>W.heap.size+3<=b) W' sv l1->Calls Tryz.prog 60 #[BdV k 0 (v1,v2,v3) 0 o (n) sv] W' fun e w'=>e= .returned (.tuple #[BdV k (typeD k o 0 (v1,v2,v3) (n) l1).1 (v1,v2,v3) 0 o (n) sv,.int .i64 (typeD k o 0 (v1,v2,v3) (n) l1).2])/\Bl W' w'):=fun W' sv _ hrl=>(wtyped_any (.mk k 0 (v1,v2,v3) 0 o (n) l1) (by simp only[partsD];omega) W' (BdV k 0 (v1,v2,v3) 0 o (n) sv) ⟨sv,rfl,hrl.keep (aH _) (fun _ _=>trivial) fun _ _ _=>rfl⟩).mono fun e w' ⟨⟨s,hs,he⟩,hb⟩=>by
      obtain rfl:sv=s:=(by simpa[Bd.k,Bd.t,Bd.v,Bd.p,Bd.o,Bd.n] using hs);exact⟨he,hb⟩
     have HZ1:Hid (((typeD k o 0 (v1,v2,v3) (n) l1).2=0->Z=(.mk k (typeD k o 0 (v1,v2,v3) (n) l1).1 (v1,v2,v3) 0 o (n) l1,0))/\((typeD k o 0 (v1,v2,v3) (n) l1).2≠0->Z=(zeroD,(typeD k o 0 (v1,v2,v3) (n) l1).2))):=⟨fun h=>HZO.o.trans (if_pos h),fun h=>HZO.o.trans (if_neg h)⟩
     clear HZO;generalize (typeD k o 0 (v1,v2,v3) (n) l1).1=ty at *;generalize (typeD k o 0 (v1,v2,v3) (n) l1).2=te at *;go_wp2_with (refine bA (g:=W.heap.size+2) (i:=7) rfl rfl rfl rfl (unC9 k 0 v1 v2 v3 0 o n (.slice sa l1.length sc)) HF.o.u rfl rfl d2j rfl ?_)
     intro w2 hB2 hX2;have HF2:=aB (HF.o.but hB2 hX2);have HRD2:=aB (HV.o.keep (r:=fun b=>W.heap.size+3<=b) (Nat.le_of_eq hB2.size.symm) (fun b h=>h) fun b (h:_<=b) _=>hB2.same b (by omega));clear hB2 hX2 u0 u1 u2 u3 u4 u5 u6 u7 u8 x0 x1 x2 x3 x4 x5 x6 x7 HF HV;obtain⟨u0,u1,u2,u3,u4,u5,u6,u7,u8⟩:=nine HF2.o.u;go_wp2_with fail;refine(HTY.o _ _ (HF2.o).bl (HRD2.o)).mono ?_;rintro e w5 ⟨rfl,hb5⟩;have HF5:=aB ((HF2.o).call hb5);have HRD5:=aB ((HRD2.o).bl hb5);clear hb5 u0 u1 u2 u3 u4 u5 u6 u7 u8 HTY;go_wp2_with (refine bA (g:=W.heap.size+2) (i:=0) rfl rfl rfl rfl (unC9 (k) ty v1 v2 v3 0 o (n) (.slice sa l1.length sc)) HF5.o.u rfl rfl bdInfo rfl ?_)
     intro w6 hB6 hX6;have HF6:=aB (HF5.o.but hB6 hX6);have HRD6:=aB (HRD5.o.keep (r:=fun b=>W.heap.size+3<=b) (Nat.le_of_eq hB6.size.symm) (fun b h=>h) fun b (h:_<=b) _=>hB6.same b (by omega));clear hB6 hX6 HF5 HRD5;by_cases he:te=0
     ·have q1:(te != 0)=false:=by simpa using he
      have HZ2:=aB (HZ1.o.1 he);clear he HZ1;obtain⟨u0,u1,u2,u3,u4,u5,u6,u7,u8⟩:=nine HF6.o.u;go_wp2_with (refine bA (g:=W.heap.size+1) (i:=0) rfl rfl rfl rfl (unC9 (k) (ty) v1 v2 v3 (0) o (n) (.slice sa l1.length sc)) (HF6.o).r rfl rfl bdInfo rfl ?_)
      intro w9 hB9 hX9;have HR9:=aB ((HF6.o).results (k:=k) (t:=ty) (v:=(v1,v2,v3)) (p:=0) (o:=o) (n:=n) hB9 (HRD6.o));obtain⟨q0,q1,q2,q3,q4,q5,q6,q7,q8⟩:=nine hX9;go_wp2;refine bodyPost_ret (v:= .tuple #[BdV (k) (ty) (v1,v2,v3) (0) o (n) (.slice sa l1.length sc),.int .i64 0]) (by simp[results,Tryz.results37,go_sem,q0,q1,q2,q3,q4,q5,q6,q7,q8]) rfl ⟨?_,HR9.o.1⟩;exact⟨_,by rw[HZ2.o],by rw[HZ2.o];exact HR9.o.2⟩
     ·have q1:(te != 0)=true:=by simpa using he
      have HZ2:=aB (HZ1.o.2 he);clear he HZ1;go_wp2_with (refine bA (g:=W.heap.size+1) (i:=0) rfl rfl rfl rfl (unC9 0 0 0 0 [] 0 0 [] (.slice none 0 0)) (HF6.o).r rfl rfl bdInfo rfl ?_)
      intro w9 hB9 hX9;obtain⟨q0,q1,q2,q3,q4,q5,q6,q7,q8⟩:=nine hX9;go_wp2;refine bodyPost_ret (v:= .tuple #[BdV 0 0 zVl 0 0 [] (.slice none 0 0),.int .i64 te]) (by simp[results,Tryz.results37,go_sem,q0,q1,q2,q3,q4,q5,q6,q7,q8,zVl]) rfl ⟨?_,hB9.bl (HF6.o).bl (by omega)⟩;exact⟨_,by rw[HZ2.o],by rw[HZ2.o];exact zero_readsD _ _⟩
    ·have g5:(k==5)=false:=by simpa using h5
     have HZO:=aB (HZO'.o [] (fun h=>absurd h h5) (fun _=>rfl));clear h5 HZO';have HTY:Hid (∀(W':World) (sv:Value),Bl W W'->ReadsDL (fun b=>W.heap.size+3<=b) W' sv l1->Calls Tryz.prog 60 #[BdV k 0 (v1,v2,v3) 0 o ([]) sv] W' fun e w'=>e= .returned (.tuple #[BdV k (typeD k o 0 (v1,v2,v3) ([]) l1).1 (v1,v2,v3) 0 o ([]) sv,.int .i64 (typeD k o 0 (v1,v2,v3) ([]) l1).2])/\Bl W' w'):=fun W' sv _ hrl=>(wtyped_any (.mk k 0 (v1,v2,v3) 0 o ([]) l1) (by simp only[partsD];omega) W' (BdV k 0 (v1,v2,v3) 0 o ([]) sv) ⟨sv,rfl,hrl.keep (aH _) (fun _ _=>trivial) fun _ _ _=>rfl⟩).mono fun e w' ⟨⟨s,hs,he⟩,hb⟩=>by
      obtain rfl:sv=s:=(by simpa[Bd.k,Bd.t,Bd.v,Bd.p,Bd.o,Bd.n] using hs);exact⟨he,hb⟩
     have HZ1:Hid (((typeD k o 0 (v1,v2,v3) ([]) l1).2=0->Z=(.mk k (typeD k o 0 (v1,v2,v3) ([]) l1).1 (v1,v2,v3) 0 o ([]) l1,0))/\((typeD k o 0 (v1,v2,v3) ([]) l1).2≠0->Z=(zeroD,(typeD k o 0 (v1,v2,v3) ([]) l1).2))):=⟨fun h=>HZO.o.trans (if_pos h),fun h=>HZO.o.trans (if_neg h)⟩
     clear HZO;generalize (typeD k o 0 (v1,v2,v3) ([]) l1).1=ty at *;generalize (typeD k o 0 (v1,v2,v3) ([]) l1).2=te at *;go_wp2_with fail;refine(HTY.o _ _ (HF.o).bl (HV.o)).mono ?_;rintro e w5 ⟨rfl,hb5⟩;have HF5:=aB ((HF.o).call hb5);have HRD5:=aB ((HV.o).bl hb5);clear hb5 u0 u1 u2 u3 u4 u5 u6 u7 u8 HTY;go_wp2_with (refine bA (g:=W.heap.size+2) (i:=0) rfl rfl rfl rfl (unC9 (k) ty v1 v2 v3 0 o ([]) (.slice sa l1.length sc)) HF5.o.u rfl rfl bdInfo rfl ?_)
     intro w6 hB6 hX6;have HF6:=aB (HF5.o.but hB6 hX6);have HRD6:=aB (HRD5.o.keep (r:=fun b=>W.heap.size+3<=b) (Nat.le_of_eq hB6.size.symm) (fun b h=>h) fun b (h:_<=b) _=>hB6.same b (by omega));clear hB6 hX6 HF5 HRD5;by_cases he:te=0
     ·have q1:(te != 0)=false:=by simpa using he
      have HZ2:=aB (HZ1.o.1 he);clear he HZ1;obtain⟨u0,u1,u2,u3,u4,u5,u6,u7,u8⟩:=nine HF6.o.u;go_wp2_with (refine bA (g:=W.heap.size+1) (i:=0) rfl rfl rfl rfl (unC9 (k) (ty) v1 v2 v3 (0) o ([]) (.slice sa l1.length sc)) (HF6.o).r rfl rfl bdInfo rfl ?_)
      intro w9 hB9 hX9;have HR9:=aB ((HF6.o).results (k:=k) (t:=ty) (v:=(v1,v2,v3)) (p:=0) (o:=o) (n:=[]) hB9 (HRD6.o));obtain⟨q0,q1,q2,q3,q4,q5,q6,q7,q8⟩:=nine hX9;go_wp2;refine bodyPost_ret (v:= .tuple #[BdV (k) (ty) (v1,v2,v3) (0) o ([]) (.slice sa l1.length sc),.int .i64 0]) (by simp[results,Tryz.results37,go_sem,q0,q1,q2,q3,q4,q5,q6,q7,q8]) rfl ⟨?_,HR9.o.1⟩;exact⟨_,by rw[HZ2.o],by rw[HZ2.o];exact HR9.o.2⟩
     ·have q1:(te != 0)=true:=by simpa using he
      have HZ2:=aB (HZ1.o.2 he);clear he HZ1;go_wp2_with (refine bA (g:=W.heap.size+1) (i:=0) rfl rfl rfl rfl (unC9 0 0 0 0 [] 0 0 [] (.slice none 0 0)) (HF6.o).r rfl rfl bdInfo rfl ?_)
      intro w9 hB9 hX9;obtain⟨q0,q1,q2,q3,q4,q5,q6,q7,q8⟩:=nine hX9;go_wp2;refine bodyPost_ret (v:= .tuple #[BdV 0 0 zVl 0 0 [] (.slice none 0 0),.int .i64 te]) (by simp[results,Tryz.results37,go_sem,q0,q1,q2,q3,q4,q5,q6,q7,q8,zVl]) rfl ⟨?_,hB9.bl (HF6.o).bl (by omega)⟩;exact⟨_,by rw[HZ2.o],by rw[HZ2.o];exact zero_readsD _ _⟩
end
end Go.Proofs.YtkimpcmkminffaaGreatDoor
