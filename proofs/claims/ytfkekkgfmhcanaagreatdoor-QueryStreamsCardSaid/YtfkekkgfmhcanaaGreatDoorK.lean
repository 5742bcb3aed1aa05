/- Texts QJ YG QG YC YD YE YF YI. -/
import Derived.Test.YtfkekkgfmhcanaaGreatDoorD
import Derived.Test.YtfkekkgfmhcanaaGreatDoorE
import Derived.Test.YtfkekkgfmhcanaaGreatDoorF
import Derived.Test.YtfkekkgfmhcanaaGreatDoorI
import Derived.Deep.CutBlock
import Derived.Test.YtfkekkgfmhcanaaGreatDoorJ
namespace Go.Proofs.YtfkekkgfmhcanaaGreatDoor
open _root_.Go.Proofs.Tryz
open Go.RowKit
open _root_.Go.Act renaming put->aK
open _root_.And renaming intro->bT
open _root_.Go.RowKit.Below renaming grown->iL
open _root_.Bool renaming or_eq_true->jO
open _root_.Go.Lib renaming cell_of_heap->aG,hid->aB
open _root_.List renaming eq_nil_of_length_eq_zero->lM,getElem?_eq_getElem->aP,getElem_mem->dS,length_append->bD,length_map->mD,length_nil->bL,length_pos_iff->qH,length_singleton->dB,map_append->kW,mem_append->iX,mem_singleton->gQ,nil_append->cB,setIfInBounds_toArray->aA,set_cons_succ->aF,set_cons_zero->aD,take_add_one->dN,take_length->gJ
open _root_.Nat renaming le_refl->aH,le_trans->jH,zero_le->dL
open NoPanic renaming normal->bF
open _root_.Option renaming map_some->lX
open _root_.Go.World renaming block_lt_of_cell?->bB,ownsRow_nil->d2l,size_alloc->aR
set_option maxRecDepth 100000
set_option maxHeartbeats 16000000
section
structure d9u(N:Nat)(q:Qu):Prop where
 items:∀i∈q.items,fC i.x<=N
 joins:∀j∈q.joins,fC j.on<=N
 wher:fC q.wher<=N
 group:∀x∈q.group,fC x<=N
 having:fC q.having<=N
 orders:∀o∈q.orders,fC o.x<=N
 li:q.items.length<=N
 lj:q.joins.length<=N
 lg:q.group.length<=N
 lo:q.orders.length<=N
theorem d3n:fC zeroE=1:=by unfold zeroE;simp only[fC,fF]
theorem e1l{N:Nat}(h:1<=N):d9u N d3z:=
 ⟨fun i h=>(by cases h),fun i h=>(by cases h),by show fC zeroE<=_;rw[d3n];exact h,fun i h=>(by cases h),by show fC zeroE<=_;rw[d3n];exact h,fun i h=>(by cases h),dL _,dL _,dL _,dL _⟩
section
variable {ts:List Tok} {k k':Nat}
theorem d5i(hT:lC ts)(hk:k<ts.length){x:Ex}(h:d3j ts k= .good k' x):k'<ts.length/\fC x<=ts.length+10:=by
 unfold d3j at h;cases hr:uD ts k with
 |o=>rw[hr] at h;cases h
 |bad e=>rw[hr] at h;cases h
 |good a b=>
  rw[hr] at h;injection h with h1 h2;subst h1;subst h2;have hm:=run_parts hT (steps ts) (.rd 0 k 0) hk;have hr':dW ts (steps ts) (.rd 0 k 0)= .good a b:=hr;rw[hr'] at hm;have h1:=hm.1;have h2:=hm.2;simp only[Job.at,Job.made] at h1 h2;exact⟨h1,by omega⟩
theorem d8g(hT:lC ts)(hk:k<ts.length){w:List UInt8}{x:Ex}(h:d3s ts w k= .good k' x):k'<ts.length/\fC x<=ts.length+10:=by
 unfold d3s at h;cases ht:bH ts k [w] with
 |none=>
  rw[ht] at h;injection h with h1 h2;subst h1 h2;exact⟨hk,by rw[d3n];omega⟩
 |some k1=>
  rw[ht] at h;exact d5i hT (b8z hk ht) h
theorem d6e{α:Type}{one:Nat->d2u α}{P:α->Prop}(hone:∀k k' x,k<ts.length->one k= .good k' x->k'<ts.length/\P x):∀(f k:Nat) (acc l:List α) (k':Nat),k<ts.length->(∀x∈acc,P x)->d3o ts one f k acc= .good k' l->k'<ts.length/\(∀x∈l,P x)/\l.length<=acc.length+f
 |0,k,acc,l,k',hk,ha,h=>by cases h
 |f+1,k,acc,l,k',hk,ha,h=>by
  simp only[d3o] at h;obtain⟨k1,x,h1,h2⟩:=d2u.bind_good h;have h3:=hone k k1 x hk h1;have hacc:∀y∈acc++[x],P y:=fun y hy=>by
   rcases iX.1 hy with hy|hy
   ·exact ha y hy
   ·obtain rfl:=gQ.1 hy;exact h3.2
  cases ht:bH ts k1 [[44]] with
  |none=>
   rw[ht] at h2;injection h2 with h4 h5;subst h4 h5;exact⟨h3.1,hacc,by rw[bD,dB];omega⟩
  |some k2=>
   rw[ht] at h2;have:=d6e hone f k2 (acc++[x]) l k' (b8z h3.1 ht) hacc h2;exact⟨this.1,this.2.1,by have:=this.2.2;simp at this;omega⟩
theorem e3u(hT:lC ts)(hk:k<ts.length){x:It}(h:d3x ts k= .good k' x):k'<ts.length/\fC x.x<=ts.length+10:=by
 have hp:=d6m hT hk h;refine⟨hp.2,?_⟩;unfold d3x at h;cases ht:bH ts k [[42]] with
 |some k1=>
  rw[ht] at h;injection h with h1 h2;subst h2;show fC zeroE<=_;rw[d3n];omega
 |none=>
  rw[ht] at h;simp only at h;cases hn:(mM ts k).bind fun p=>(bH ts p.2 [[46],[42]]).map fun k2=>(p.1,k2) with
  |some q=>
   obtain⟨n,k2⟩:=q;rw[hn] at h;injection h with h1 h2;subst h2;show fC zeroE<=_;rw[d3n];omega
  |none=>
   rw[hn] at h;obtain⟨k1,y,h1,h2⟩:=d2u.bind_good h;obtain⟨k2,z,h3,h4⟩:=d2u.bind_good h2;injection h4 with h4 h5;subst h5;exact(d5i hT hk h1).2
theorem e2h(hT:lC ts)(hk:k<ts.length){x:Od}(h:d3f ts k= .good k' x):k'<ts.length/\fC x.x<=ts.length+10:=by
 have hp:=d5t hT hk h;refine⟨hp.2,?_⟩;unfold d3f at h;obtain⟨k1,y,h1,h2⟩:=d2u.bind_good h;have hy:=(d5i hT hk h1).2;split at h2
 ·injection h2 with _ h2;subst h2;exact hy
 ·split at h2
  ·injection h2 with _ h2;subst h2;exact hy
  ·injection h2 with _ h2;subst h2;exact hy
theorem e3r(hT:lC ts){x:Jo}(h:d5h ts k= .good k' x):k'<ts.length/\fC x.on<=ts.length+10:=by
 have hp:=d6k hT h;refine⟨hp.2,?_⟩;unfold d5h at h;obtain⟨k1,s,h1,h2⟩:=d2u.bind_good h;have h3:=d4z hT h1;cases ho:bH ts k1 [wOn] with
 |none=>rw[ho] at h2;cases h2
 |some k2=>
  rw[ho] at h2;obtain⟨k3,y,h4,h5⟩:=d2u.bind_good h2;injection h5 with _ h5;subst h5;exact(d5i hT (b8z h3.2 ho) h4).2
theorem d8i(hT:lC ts):∀(f k:Nat) (acc l:List Jo) (k':Nat),k<ts.length->(∀x∈acc,fC x.on<=ts.length+10)->d4u ts f k acc= .good k' l->k'<ts.length/\(∀x∈l,fC x.on<=ts.length+10)/\l.length<=acc.length+f
 |0,k,acc,l,k',hk,ha,h=>by cases h
 |f+1,k,acc,l,k',hk,ha,h=>by
  simp only[d4u] at h;cases ht:bH ts k [d5v] with
  |none=>
   rw[ht] at h;injection h with h4 h5;subst h4 h5;exact⟨hk,ha,by omega⟩
  |some k1=>
   rw[ht] at h;obtain⟨k2,x,h1,h2⟩:=d2u.bind_good h;have h3:=e3r hT h1;have:=d8i hT f k2 (acc++[x]) l k' h3.1 (fun y hy=>by
    rcases iX.1 hy with hy|hy
    ·exact ha y hy
    ·obtain rfl:=gQ.1 hy;exact h3.2) h2
   exact⟨this.1,this.2.1,by have:=this.2.2;simp at this;omega⟩
theorem e1m(hT:lC ts)(hk:k<ts.length){q:Qu}(h:d6b ts k= .good k' q):d9u (ts.length+10) q:=by
 unfold d6b at h;cases h0:bH ts k [d3h] with
 |none=>rw[h0] at h;cases h
 |some k1=>
 rw[h0] at h;simp only at h;have hk1:=b8z hk h0;obtain⟨k2,items,h1,h⟩:=d2u.bind_good h;have hkd:((bH ts k1 [d2s]).getD k1)<ts.length:=by
  cases hd:bH ts k1 [d2s] with
  |none=>exact hk1
  |some kd=>exact b8z hk1 hd
 have hi:=d6e (P:=fun i:It=>fC i.x<=ts.length+10) (fun k k' x hk h=>e3u hT hk h) _ _ _ _ _ hkd (fun x hx=>by cases hx) h1;cases h2:bH ts k2 [d5p] with
 |none=>rw[h2] at h;cases h
 |some k3=>
 rw[h2] at h;simp only at h;obtain⟨k4,frm,h3,h⟩:=d2u.bind_good h;obtain⟨k5,joins,h4,h⟩:=d2u.bind_good h;have hj:=d8i hT _ _ _ _ _ (d4z hT h3).2 (fun x hx=>by cases hx) h4;obtain⟨k6,wher,h5,h⟩:=d2u.bind_good h;have hw:=d8g hT hj.1 h5;obtain⟨k7,group,h6,h⟩:=d2u.bind_good h;have hg:k7<ts.length/\(∀x∈group,fC x<=ts.length+10)/\group.length<=ts.length:=by
  unfold d4v at h6;cases hgt:bH ts k6 [d4q,wBy] with
  |none=>
   rw[hgt] at h6;injection h6 with e1 e2;subst e1 e2;exact⟨hw.1,fun x hx=>(by cases hx),dL _⟩
  |some kg=>
   rw[hgt] at h6;have:=d6e (P:=fun x:Ex=>fC x<=ts.length+10) (fun k k' x hk h=>d5i hT hk h) _ _ _ _ _ (b8z hw.1 hgt) (fun x hx=>by cases hx) h6;exact⟨this.1,this.2.1,by have:=this.2.2;simpa using this⟩
 obtain⟨k8,having,h7,h⟩:=d2u.bind_good h;have hh:k8<ts.length/\fC having<=ts.length+10:=by
  unfold d5u at h7;split at h7
  ·injection h7 with e1 e2;subst e1 e2;exact⟨hg.1,by rw[d3n];omega⟩
  ·exact d8g hT hg.1 h7
 obtain⟨k9,orders,h8,h⟩:=d2u.bind_good h;have ho:(∀x∈orders,fC (Od.x x)<=ts.length+10)/\orders.length<=ts.length:=by
  unfold d5s at h8;cases hot:bH ts k8 [d5n,wBy] with
  |none=>
   rw[hot] at h8;injection h8 with e1 e2;subst e1 e2;exact⟨fun x hx=>(by cases hx),dL _⟩
  |some kg=>
   rw[hot] at h8;have:=d6e (P:=fun x:Od=>fC x.x<=ts.length+10) (fun k k' x hk h=>e2h hT hk h) _ _ _ _ _ (b8z hh.1 hot) (fun x hx=>by cases hx) h8;exact⟨this.2.1,by have:=this.2.2;simpa using this⟩
 obtain⟨k10,limit,h9,h⟩:=d2u.bind_good h;injection h with e1 e2;subst e2;exact⟨hi.2.1,hj.2.1,hw.2,hg.2.1,hh.2,ho.1,by have:=hi.2.2;simp at this;show items.length<=_;omega,by have:=hj.2.2;simp at this;show joins.length<=_;omega,by have:=hg.2.2;show group.length<=_;omega,by have:=ho.2;show orders.length<=_;omega⟩
end
end
section
theorem d2k.cell0{W:World}{b o:Nat}{cs:List Value}{v:Value}(h:d2k W b o cs)(hv:cs[0]?=some v):W.cell? ⟨b,o,none⟩=some v:=h 0 v hv
abbrev d6t(x:Ex):Prop:=∀(w:World) (v u:Value),eO w x v->eO w x u->eu 59 #[v,u] w fun e w'=>e= .returned (.bool true)/\Bl w w'
theorem d6i{x:Ex}(h:fC x<=1000000):d6t x:=fun w v u hv hu=>by
 have h:=a1o _ x x (aH _) h w v u hv hu;rw[zZ] at h;exact h
theorem d7a{l:List It}(hlen:l.length<=1000000)(hs:∀i∈l,d6t i.x){p r:Nat->Prop}{W:World}{sv su:Value}(hR:d2p fIt p W sv l)(hR2:d2p fIt r W su l):eu 17 #[sv,su] W fun e w'=>e= .returned (.bool true)/\Bl W w':=by
 obtain⟨a,cap,rfl,hc⟩:=hR.shape;obtain⟨a2,cap2,rfl,hc2⟩:=hR2.shape;have HC:=aB hc;have HC2:=aB hc2;have HS:=aB hs;clear hR hR2 hc hc2 hs;go_enter func17,ntmps17;go_wp2_with fail;go_loopw [5] (fun i wr=>∃j:Nat,j<=l.length/\i= .int .i64 (j:Int)/\Hid (Bl W wr)) (fun i _=>l.length-(intOf i).toNat)
 case atStart=>exact⟨0,dL _,rfl,Bl.refl W⟩
 case round=>
  obtain⟨j,hj,rfl,HB⟩:=hrel;by_cases hlt:j<l.length
  ·obtain⟨b,off,s,rfl,-,hbl,hcs,hr⟩:=HC.o j hlt;obtain⟨b2,off2,s2,rfl,-,hbl2,hcs2,hr2⟩:=HC2.o j hlt;have HSY:=aB (HS.o _ (dS hlt));obtain⟨asl,cs,rfl⟩:=hr.shape;obtain⟨asl2,cs2,rfl⟩:=hr2.shape;have HR:=aB (bT (hr.reads.bl HB.o) (hr2.reads.bl HB.o))
   replace hcs:=hcs.keep (HB.o.block b hbl)
   replace hcs2:=hcs2.keep (HB.o.block b2 hbl2)
   have hz:=HB.o.size;have hlt':(j:Int)<(l.length:Int):=aE;clear hr hr2;generalize l[j]=y at *;obtain⟨st,tt,⟨yk,⟨y1,y2,y3⟩,yt,yn,yo,ya⟩,al⟩:=y;simp only[fIt,Ex.args] at HR;have HCS:=aB (show d2k wr b (off+j * 11) [.bool st,S tt,.int .i64 yk,.int .i64 y1,.int .i64 y2,S y3,S yt,S yn,.int .i64 yo,.slice asl ya.length cs,S al]/\d2k wr b2 (off2+j * 11) [.bool st,S tt,.int .i64 yk,.int .i64 y1,.int .i64 y2,S y3,S yt,S yn,.int .i64 yo,.slice asl2 ya.length cs2,S al] from⟨hcs,hcs2⟩);clear hcs hcs2;go_wp2_with fail;refine wp_region_noPanic (bM (fun B=>d2k B b (off+j * 11) [.bool st,S tt,.int .i64 yk,.int .i64 y1,.int .i64 y2,S y3,S yt,S yn,.int .i64 yo,.slice asl ya.length cs,S al]/\d2k B b2 (off2+j * 11) [.bool st,S tt,.int .i64 yk,.int .i64 y1,.int .i64 y2,S y3,S yt,S yn,.int .i64 yo,.slice asl2 ya.length cs2,S al]) ((.take 0 (.take 1 (.take 2 (.take 3 (.take 4 (.take 5 (.take 6 (.take 7 (.take 8 (.take 9 (.take 10 (.take 11 (.take 12 (.take 13 (.take 14 (.take 15 (.take 16 (.take 17 (.take 18 (.take 19 (.take 20 (.take 21 (.take 22 (.take 23 (.take 24 (.take 25 (.take 26 (.take 27 (.take 28 (.take 29 (.take 30 (.take 31 (.take 32 (.take 33 (.take 34 (.take 35 (.take 36 (.take 37 (.take 38 (.take 39 (.take 40 (.take 41 (.take 42 (.take 43 (.take 44 (.take 45 (.take 46 (.take 47 (.one 48 (.take 49 (.take 50 .done)))))))))))))))))))))))))))))))))))))))))))))))))))) ab ab ab (fun _ _ _ _ _ h=>h) (⟨HCS.o.1.keep (((Bl.refl _).drew).block b aE),HCS.o.2.keep (((Bl.refl _).drew).block b2 aE)⟩) ?_);intro wd HWD hY;iterate 48 (refine aI rfl ae (by intro w hSw;(try dsimp only at hSw);have e0:=d2k.cell0 (hSw.1) rfl;have e1:=hSw.1 1 _ rfl;have e2:=hSw.1 2 _ rfl;have e3:=hSw.1 3 _ rfl;have e4:=hSw.1 4 _ rfl;have e5:=hSw.1 5 _ rfl;have e6:=hSw.1 6 _ rfl;have e7:=hSw.1 7 _ rfl;have e8:=hSw.1 8 _ rfl;have e9:=hSw.1 9 _ rfl;have e10:=hSw.1 10 _ rfl;have f0:=d2k.cell0 (hSw.2) rfl;have f1:=hSw.2 1 _ rfl;have f2:=hSw.2 2 _ rfl;have f3:=hSw.2 3 _ rfl;have f4:=hSw.2 4 _ rfl;have f5:=hSw.2 5 _ rfl;have f6:=hSw.2 6 _ rfl;have f7:=hSw.2 7 _ rfl;have f8:=hSw.2 8 _ rfl;have f9:=hSw.2 9 _ rfl;have f10:=hSw.2 10 _ rfl;go_simp;(try(first |with_reducible rfl|rfl))) ?_;(try simp only[aK,aA,aD,aF]))
   refine aL rfl (fun K hK=>?_);go_simp;(refine(HSY.o _ _ _ ⟨_,rfl,HR.o.1.bl HWD.o⟩ ⟨_,rfl,HR.o.2.bl HWD.o⟩).mono ?_;rintro e w3 ⟨rfl,hb3⟩;have hb:=hb3);go_wp2_with fail;refine hK.o _ _ (⟨hY.1.keep (hb.block b (hY.1.lt (Nat.succ_pos _))),hY.2.keep (hb.block b2 (hY.2.lt (Nat.succ_pos _)))⟩) ?_;clear hY hK K;intro hY;clear hb;iterate 2 (refine aI rfl ae (by intro w hSw;(try dsimp only at hSw);have e0:=d2k.cell0 (hSw.1) rfl;have e1:=hSw.1 1 _ rfl;have e2:=hSw.1 2 _ rfl;have e3:=hSw.1 3 _ rfl;have e4:=hSw.1 4 _ rfl;have e5:=hSw.1 5 _ rfl;have e6:=hSw.1 6 _ rfl;have e7:=hSw.1 7 _ rfl;have e8:=hSw.1 8 _ rfl;have e9:=hSw.1 9 _ rfl;have e10:=hSw.1 10 _ rfl;have f0:=d2k.cell0 (hSw.2) rfl;have f1:=hSw.2 1 _ rfl;have f2:=hSw.2 2 _ rfl;have f3:=hSw.2 3 _ rfl;have f4:=hSw.2 4 _ rfl;have f5:=hSw.2 5 _ rfl;have f6:=hSw.2 6 _ rfl;have f7:=hSw.2 7 _ rfl;have f8:=hSw.2 8 _ rfl;have f9:=hSw.2 9 _ rfl;have f10:=hSw.2 10 _ rfl;go_simp;(try(first |with_reducible rfl|rfl))) ?_;(try simp only[aK,aA,aD,aF]))
   refine fO (bF ?_);have HB1:=aB ((HB.o.call HWD.o).call hb3);clear hY hb3;go_wp2;go_roundw
   case rel=>exact⟨j+1,by omega,by go_num,HB1.o⟩
   case measure=>simp[intOf];omega
  ·obtain rfl:j=l.length:=by omega
   go_wp2;go_ret;exact⟨rfl,HB.o⟩
theorem d2t.slices{p:Nat->Prop}{W:World}{q:Qu}{si sj sw sg sh so:Value}(h:d2t p W q si sj sw sg sh so):∃ai ci aj cj aw cw ag cg ah ch ao co,si= .slice ai q.items.length ci/\sj= .slice aj q.joins.length cj/\sw= .slice aw q.wher.args.length cw/\sg= .slice ag q.group.length cg/\sh= .slice ah q.having.args.length ch/\so= .slice ao q.orders.length co:=by
 obtain⟨ai,ci,e1,-⟩:=h.items.shape;obtain⟨aj,cj,e2,-⟩:=h.joins.shape;obtain⟨aw,cw,e3⟩:=h.wher.shape;obtain⟨ag,cg,e4⟩:=h.group.shape;obtain⟨ah,ch,e5⟩:=h.having.shape;obtain⟨ao,co,e6,-⟩:=h.orders.shape;exact⟨ai,ci,aj,cj,aw,cw,ag,cg,ah,ch,ao,co,e1,e2,e3,e4,e5,e6⟩
structure e7b(q:Qu):Prop where
 items:∀i∈q.items,d6t i.x
 joins:∀j∈q.joins,d6t j.on
 wher:d6t q.wher
 group:∀x∈q.group,d6t x
 having:d6t q.having
 orders:∀o∈q.orders,d6t o.x
 li:q.items.length<=1000000
 lj:q.joins.length<=1000000
 lg:q.group.length<=1000000
 lo:q.orders.length<=1000000
theorem e6c{N:Nat}{q:Qu}(h:d9u N q)(hN:N<=1000000):e7b q:=
 ⟨fun i hi=>d6i (jH (h.items i hi) hN),fun i hi=>d6i (jH (h.joins i hi) hN),d6i (jH h.wher hN),fun i hi=>d6i (jH (h.group i hi) hN),d6i (jH h.having hN),fun i hi=>d6i (jH (h.orders i hi) hN),jH h.li hN,jH h.lj hN,jH h.lg hN,jH h.lo hN⟩
theorem d6s{w:World}{b:Nat}{q:Qu}{si sj sw sg sh so:Value}{T:TypeId}(h:w.heap[b]?=some (.cells (quC q si sj sw sg sh so).toArray T (0,0))):
  w.cell? ⟨b,0,none⟩=some (.bool q.distinct)/\w.cell? ⟨b,1,none⟩=some (si)/\w.cell? ⟨b,2,none⟩=some (S q.frm.t)/\w.cell? ⟨b,3,none⟩=some (S q.frm.al)/\w.cell? ⟨b,4,none⟩=some (sj)/\w.cell? ⟨b,5,none⟩=some (.int .i64 q.wher.k)/\w.cell? ⟨b,6,none⟩=some (.int .i64 q.wher.v.1)/\w.cell? ⟨b,7,none⟩=some (.int .i64 q.wher.v.2.1)/\w.cell? ⟨b,8,none⟩=some (S q.wher.v.2.2)/\w.cell? ⟨b,9,none⟩=some (S q.wher.t)/\w.cell? ⟨b,10,none⟩=some (S q.wher.n)/\w.cell? ⟨b,11,none⟩=some (.int .i64 q.wher.o)/\w.cell? ⟨b,12,none⟩=some (sw)/\w.cell? ⟨b,13,none⟩=some (sg)/\w.cell? ⟨b,14,none⟩=some (.int .i64 q.having.k)/\w.cell? ⟨b,15,none⟩=some (.int .i64 q.having.v.1)/\w.cell? ⟨b,16,none⟩=some (.int .i64 q.having.v.2.1)/\w.cell? ⟨b,17,none⟩=some (S q.having.v.2.2)/\w.cell? ⟨b,18,none⟩=some (S q.having.t)/\w.cell? ⟨b,19,none⟩=some (S q.having.n)/\w.cell? ⟨b,20,none⟩=some (.int .i64 q.having.o)/\w.cell? ⟨b,21,none⟩=some (sh)/\w.cell? ⟨b,22,none⟩=some (so)/\w.cell? ⟨b,23,none⟩=some (.int .i64 q.limit):=
 ⟨(aG h 0).trans rfl,(aG h 1).trans rfl,(aG h 2).trans rfl,(aG h 3).trans rfl,(aG h 4).trans rfl,(aG h 5).trans rfl,(aG h 6).trans rfl,(aG h 7).trans rfl,(aG h 8).trans rfl,(aG h 9).trans rfl,(aG h 10).trans rfl,(aG h 11).trans rfl,(aG h 12).trans rfl,(aG h 13).trans rfl,(aG h 14).trans rfl,(aG h 15).trans rfl,(aG h 16).trans rfl,(aG h 17).trans rfl,(aG h 18).trans rfl,(aG h 19).trans rfl,(aG h 20).trans rfl,(aG h 21).trans rfl,(aG h 22).trans rfl,(aG h 23).trans rfl⟩
theorem d6j{α:Type}{F:Form α}{p:Nat->Prop}{W:World}{a:Option Addr}{cap n:Nat}{l:List α}(h:d2p F p W (.slice a n cap) l):∀j,(hj:j<l.length)->∃b off s,a=some ⟨b,off,none⟩/\b<W.heap.size/\d2k W b (off+j * F.n) (F.cells l[j] s)/\bG p W s (F.ex l[j]).args:=fun j hj=>by
 obtain⟨a',cap',e,h⟩:=h.shape;obtain⟨b,off,s,ea,-,hb,hc,hr⟩:=h j hj;injection e with e1 e2 e3;exact⟨b,off,s,e1.trans ea,hb,hc,hr⟩
theorem e1d{q:Qu}(hq:e7b q)(W:World)(v u:Value)(hv:d5o W q v)(hu:d5o W q u):eu 21 #[v,u] W fun e w'=>e= .returned (.bool true)/\Bl W w':=by
 obtain⟨si,sj,sw,sg,sh,so,rfl,hp⟩:=hv;obtain⟨ui,uj,uw,ug,uh,uo,rfl,hp2⟩:=hu;obtain⟨ai,ci,aj,cj,aw,cw,ag,cg,ah,ch,ao,co,rfl,rfl,rfl,rfl,rfl,rfl⟩:=hp.slices;obtain⟨bi,di,bj,dj,bw,dw,bg,dg,bh,dh,bo,do',rfl,rfl,rfl,rfl,rfl,rfl⟩:=hp2.slices;have HSI:Hid (∀w,Bl W w->eu 17 #[.slice ai q.items.length ci,.slice bi q.items.length di] w fun e w'=>e= .returned (.bool true)/\Bl w w'):=fun w hb=>d7a hq.li hq.items (hp.items.bl hb) (hp2.items.bl hb);have HSW:Hid (∀w,Bl W w->eu 59 #[EV q.wher.k q.wher.v q.wher.t q.wher.n q.wher.o (.slice aw q.wher.args.length cw),EV q.wher.k q.wher.v q.wher.t q.wher.n q.wher.o (.slice bw q.wher.args.length dw)] w fun e w'=>e= .returned (.bool true)/\Bl w w'):=fun w hb=>hq.wher w _ _ ⟨_,rfl,hp.wher.reads.bl hb⟩ ⟨_,rfl,hp2.wher.reads.bl hb⟩;have HSH:Hid (∀w,Bl W w->eu 59 #[EV q.having.k q.having.v q.having.t q.having.n q.having.o (.slice ah q.having.args.length ch),EV q.having.k q.having.v q.having.t q.having.n q.having.o (.slice bh q.having.args.length dh)] w fun e w'=>e= .returned (.bool true)/\Bl w w'):=fun w hb=>hq.having w _ _ ⟨_,rfl,hp.having.reads.bl hb⟩ ⟨_,rfl,hp2.having.reads.bl hb⟩;have HX:=aB (bT ((aW (W.alloc (.cells (quC q (.slice ai q.items.length ci) (.slice aj q.joins.length cj) (.slice aw q.wher.args.length cw) (.slice ag q.group.length cg) (.slice ah q.having.args.length ch) (.slice ao q.orders.length co)).toArray 36)) (.cells (quC q (.slice bi q.items.length di) (.slice bj q.joins.length dj) (.slice bw q.wher.args.length dw) (.slice bg q.group.length dg) (.slice bh q.having.args.length dh) (.slice bo q.orders.length do')).toArray 36) aa).trans (aN W (.cells (quC q (.slice ai q.items.length ci) (.slice aj q.joins.length cj) (.slice aw q.wher.args.length cw) (.slice ag q.group.length cg) (.slice ah q.having.args.length ch) (.slice ao q.orders.length co)).toArray 36))) (aV (W.alloc (.cells (quC q (.slice ai q.items.length ci) (.slice aj q.joins.length cj) (.slice aw q.wher.args.length cw) (.slice ag q.group.length cg) (.slice ah q.having.args.length ch) (.slice ao q.orders.length co)).toArray 36)) (.cells (quC q (.slice bi q.items.length di) (.slice bj q.joins.length dj) (.slice bw q.wher.args.length dw) (.slice bg q.group.length dg) (.slice bh q.having.args.length dh) (.slice bo q.orders.length do')).toArray 36) (k:=W.heap.size+1) aa));have HB:=aB (((Bl.refl W).alloc (.cells (quC q (.slice ai q.items.length ci) (.slice aj q.joins.length cj) (.slice aw q.wher.args.length cw) (.slice ag q.group.length cg) (.slice ah q.having.args.length ch) (.slice ao q.orders.length co)).toArray 36)).alloc (.cells (quC q (.slice bi q.items.length di) (.slice bj q.joins.length dj) (.slice bw q.wher.args.length dw) (.slice bg q.group.length dg) (.slice bh q.having.args.length dh) (.slice bo q.orders.length do')).toArray 36));have HJ:=aB (bT (d6j hp.joins) (d6j hp2.joins));have HG:=aB (bT (d6j (d8w hp.group)) (d6j (d8w hp2.group)));have HO:=aB (bT (d6j hp.orders) (d6j hp2.orders));have HQ:=aB hq;have hlj:=hq.lj;have hlg:=hq.lg;have hlo:=hq.lo;obtain⟨c0,c1,c2,c3,c4,c5,c6,c7,c8,c9,c10,c11,c12,c13,c14,c15,c16,c17,c18,c19,c20,c21,c22,c23⟩:=d6s HX.o.1;obtain⟨d0,d1,d2,d3,d4,d5,d6,d7,d8,d9,d10,d11,d12,d13,d14,d15,d16,d17,d18,d19,d20,d21,d22,d23⟩:=d6s HX.o.2;clear hp hp2 hq;go_enter func21,ntmps21;go_wp2_with fail;refine(HSI.o _ HB.o).mono ?_;rintro e w9 ⟨rfl,hb⟩
 replace HB:=aB (HB.o.call hb)
 replace HX:=aB (eB HX.o hb)
 clear hb c0 c1 c2 c3 c4 c5 c6 c7 c8 c9 c10 c11 c12 c13 c14 c15 c16 c17 c18 c19 c20 c21 c22 c23 d0 d1 d2 d3 d4 d5 d6 d7 d8 d9 d10 d11 d12 d13 d14 d15 d16 d17 d18 d19 d20 d21 d22 d23;obtain⟨c0,c1,c2,c3,c4,c5,c6,c7,c8,c9,c10,c11,c12,c13,c14,c15,c16,c17,c18,c19,c20,c21,c22,c23⟩:=d6s HX.o.1;obtain⟨d0,d1,d2,d3,d4,d5,d6,d7,d8,d9,d10,d11,d12,d13,d14,d15,d16,d17,d18,d19,d20,d21,d22,d23⟩:=d6s HX.o.2;go_wp2_with fail;refine(HSW.o _ HB.o).mono ?_;rintro e w9 ⟨rfl,hb⟩
 replace HB:=aB (HB.o.call hb)
 replace HX:=aB (eB HX.o hb)
 clear hb c0 c1 c2 c3 c4 c5 c6 c7 c8 c9 c10 c11 c12 c13 c14 c15 c16 c17 c18 c19 c20 c21 c22 c23 d0 d1 d2 d3 d4 d5 d6 d7 d8 d9 d10 d11 d12 d13 d14 d15 d16 d17 d18 d19 d20 d21 d22 d23;obtain⟨c0,c1,c2,c3,c4,c5,c6,c7,c8,c9,c10,c11,c12,c13,c14,c15,c16,c17,c18,c19,c20,c21,c22,c23⟩:=d6s HX.o.1;obtain⟨d0,d1,d2,d3,d4,d5,d6,d7,d8,d9,d10,d11,d12,d13,d14,d15,d16,d17,d18,d19,d20,d21,d22,d23⟩:=d6s HX.o.2;go_wp2_with fail;refine(HSH.o _ HB.o).mono ?_;rintro e w9 ⟨rfl,hb⟩
 replace HB:=aB (HB.o.call hb)
 replace HX:=aB (eB HX.o hb)
 clear hb c0 c1 c2 c3 c4 c5 c6 c7 c8 c9 c10 c11 c12 c13 c14 c15 c16 c17 c18 c19 c20 c21 c22 c23 d0 d1 d2 d3 d4 d5 d6 d7 d8 d9 d10 d11 d12 d13 d14 d15 d16 d17 d18 d19 d20 d21 d22 d23;obtain⟨c0,c1,c2,c3,c4,c5,c6,c7,c8,c9,c10,c11,c12,c13,c14,c15,c16,c17,c18,c19,c20,c21,c22,c23⟩:=d6s HX.o.1;obtain⟨d0,d1,d2,d3,d4,d5,d6,d7,d8,d9,d10,d11,d12,d13,d14,d15,d16,d17,d18,d19,d20,d21,d22,d23⟩:=d6s HX.o.2;clear HSI HSW HSH;have HA0:=aB (Bl.refl w9);go_wp2_with fail;go_loopw [5] (fun i wr=>∃j:Nat,j<=q.joins.length/\i= .int .i64 (j:Int)/\Hid (Bl w9 wr)) (fun i _=>q.joins.length-(intOf i).toNat)
 case atStart=>exact⟨0,dL _,rfl,HA0.o⟩
 case round=>
  obtain⟨j,hj,rfl,HAj⟩:=hrel;have HXR:=aB (eB HX.o HAj.o);have h4a:wr.cell? ⟨W.heap.size,4,none⟩=some (.slice aj q.joins.length cj):=(aG HXR.o.1 4).trans rfl;have h4b:wr.cell? ⟨W.heap.size+1,4,none⟩=some (.slice bj q.joins.length dj):=(aG HXR.o.2 4).trans rfl;by_cases hlt:j<q.joins.length
  ·as_aux_lemma=>
   obtain⟨b,off,s,ha,hbl,hcs,hr⟩:=HJ.o.1 j hlt;obtain⟨b2,off2,s2,ha2,hbl2,hcs2,hr2⟩:=HJ.o.2 j hlt;subst ha ha2;have HSY:=aB (HQ.o.joins _ (dS hlt));obtain⟨asl,cs,rfl⟩:=hr.shape;obtain⟨asl2,cs2,rfl⟩:=hr2.shape;have HBW:=aB (HB.o.call HAj.o);have HR:=aB (bT (hr.reads.bl HBW.o) (hr2.reads.bl HBW.o))
   replace hcs:=hcs.keep (HBW.o.block b hbl)
   replace hcs2:=hcs2.keep (HBW.o.block b2 hbl2)
   have hz:=HBW.o.size;have hlt':(j:Int)<(q.joins.length:Int):=aE;clear hr hr2;generalize q.joins[j]=y at *;obtain⟨⟨jt,jal⟩,⟨yk,⟨y1,y2,y3⟩,yt,yn,yo,ya⟩⟩:=y;simp only[fJo,Ex.args] at HR;have HCS:=aB (show d2k wr b (off+j * 10) [S jt,S jal,.int .i64 yk,.int .i64 y1,.int .i64 y2,S y3,S yt,S yn,.int .i64 yo,.slice asl ya.length cs]/\d2k wr b2 (off2+j * 10) [S jt,S jal,.int .i64 yk,.int .i64 y1,.int .i64 y2,S y3,S yt,S yn,.int .i64 yo,.slice asl2 ya.length cs2] from⟨hcs,hcs2⟩);clear hcs hcs2;go_wp2_with fail;refine wp_region_noPanic (bM (fun B=>(B.heap[W.heap.size]?=some (.cells (quC q (.slice ai q.items.length ci) (.slice (some ⟨b,off,none⟩) q.joins.length cj) (.slice aw q.wher.args.length cw) (.slice ag q.group.length cg) (.slice ah q.having.args.length ch) (.slice ao q.orders.length co)).toArray 36 (0,0))/\B.heap[W.heap.size+1]?=some (.cells (quC q (.slice bi q.items.length di) (.slice (some ⟨b2,off2,none⟩) q.joins.length dj) (.slice bw q.wher.args.length dw) (.slice bg q.group.length dg) (.slice bh q.having.args.length dh) (.slice bo q.orders.length do')).toArray 36 (0,0)))/\d2k B b (off+j * 10) [S jt,S jal,.int .i64 yk,.int .i64 y1,.int .i64 y2,S y3,S yt,S yn,.int .i64 yo,.slice asl ya.length cs]/\d2k B b2 (off2+j * 10) [S jt,S jal,.int .i64 yk,.int .i64 y1,.int .i64 y2,S y3,S yt,S yn,.int .i64 yo,.slice asl2 ya.length cs2]) ((.take 0 (.take 1 (.take 2 (.take 3 (.take 4 (.take 5 (.take 6 (.take 7 (.take 8 (.take 9 (.take 10 (.take 11 (.take 12 (.take 13 (.take 14 (.take 15 (.take 16 (.take 17 (.take 18 (.take 19 (.take 20 (.take 21 (.take 22 (.take 23 (.take 24 (.take 25 (.one 26 (.take 27 (.take 28 .done)))))))))))))))))))))))))))))) ab ab ab (fun _ _ _ _ _ h=>h) (⟨eB HXR.o ((Bl.refl _).drew),HCS.o.1.keep (((Bl.refl _).drew).block b aE),HCS.o.2.keep (((Bl.refl _).drew).block b2 aE)⟩) ?_);intro wd HWD hY;iterate 26 (refine aI rfl ae (by intro w hSw;(try dsimp only at hSw);have q4a:w.cell? ⟨W.heap.size,4,none⟩=some (.slice (some ⟨b,off,none⟩) q.joins.length cj):=(aG hSw.1.1 4).trans rfl;have q4b:w.cell? ⟨W.heap.size+1,4,none⟩=some (.slice (some ⟨b2,off2,none⟩) q.joins.length dj):=(aG hSw.1.2 4).trans rfl;have e0:=d2k.cell0 (hSw.2.1) rfl;have e1:=hSw.2.1 1 _ rfl;have e2:=hSw.2.1 2 _ rfl;have e3:=hSw.2.1 3 _ rfl;have e4:=hSw.2.1 4 _ rfl;have e5:=hSw.2.1 5 _ rfl;have e6:=hSw.2.1 6 _ rfl;have e7:=hSw.2.1 7 _ rfl;have e8:=hSw.2.1 8 _ rfl;have e9:=hSw.2.1 9 _ rfl;have f0:=d2k.cell0 (hSw.2.2) rfl;have f1:=hSw.2.2 1 _ rfl;have f2:=hSw.2.2 2 _ rfl;have f3:=hSw.2.2 3 _ rfl;have f4:=hSw.2.2 4 _ rfl;have f5:=hSw.2.2 5 _ rfl;have f6:=hSw.2.2 6 _ rfl;have f7:=hSw.2.2 7 _ rfl;have f8:=hSw.2.2 8 _ rfl;have f9:=hSw.2.2 9 _ rfl;go_simp;(try(first |with_reducible rfl|rfl))) ?_;(try simp only[aK,aA,aD,aF]))
   refine aL rfl (fun K hK=>?_);go_simp;(refine(HSY.o _ _ _ ⟨_,rfl,HR.o.1.bl HWD.o⟩ ⟨_,rfl,HR.o.2.bl HWD.o⟩).mono ?_;rintro e w3 ⟨rfl,hb3⟩;have hb:=hb3);go_wp2_with fail;refine hK.o _ _ (⟨eB hY.1 hb,hY.2.1.keep (hb.block b (hY.2.1.lt (Nat.succ_pos _))),hY.2.2.keep (hb.block b2 (hY.2.2.lt (Nat.succ_pos _)))⟩) ?_;clear hY hK K;intro hY;clear hb;iterate 2 (refine aI rfl ae (by intro w hSw;(try dsimp only at hSw);have q4a:w.cell? ⟨W.heap.size,4,none⟩=some (.slice (some ⟨b,off,none⟩) q.joins.length cj):=(aG hSw.1.1 4).trans rfl;have q4b:w.cell? ⟨W.heap.size+1,4,none⟩=some (.slice (some ⟨b2,off2,none⟩) q.joins.length dj):=(aG hSw.1.2 4).trans rfl;have e0:=d2k.cell0 (hSw.2.1) rfl;have e1:=hSw.2.1 1 _ rfl;have e2:=hSw.2.1 2 _ rfl;have e3:=hSw.2.1 3 _ rfl;have e4:=hSw.2.1 4 _ rfl;have e5:=hSw.2.1 5 _ rfl;have e6:=hSw.2.1 6 _ rfl;have e7:=hSw.2.1 7 _ rfl;have e8:=hSw.2.1 8 _ rfl;have e9:=hSw.2.1 9 _ rfl;have f0:=d2k.cell0 (hSw.2.2) rfl;have f1:=hSw.2.2 1 _ rfl;have f2:=hSw.2.2 2 _ rfl;have f3:=hSw.2.2 3 _ rfl;have f4:=hSw.2.2 4 _ rfl;have f5:=hSw.2.2 5 _ rfl;have f6:=hSw.2.2 6 _ rfl;have f7:=hSw.2.2 7 _ rfl;have f8:=hSw.2.2 8 _ rfl;have f9:=hSw.2.2 9 _ rfl;go_simp;(try(first |with_reducible rfl|rfl))) ?_;(try simp only[aK,aA,aD,aF]))
   refine fO (bF ?_);have HB1:=aB ((HAj.o.call HWD.o).call hb3);clear hY hb3;go_wp2;go_roundw
   case rel=>exact⟨j+1,by omega,by go_num,HB1.o⟩
   case measure=>simp[intOf];omega
  ·as_aux_lemma=>
   obtain rfl:j=q.joins.length:=aE;clear hlt hj;go_wp2_with fail;go_loopw [6] (fun i wr=>∃j:Nat,j<=q.group.length/\i= .int .i64 (j:Int)/\Hid (Bl w9 wr)) (fun i _=>q.group.length-(intOf i).toNat)
   case atStart=>exact⟨0,dL _,rfl,HAj.o⟩
   case round=>
    obtain⟨j,hj,rfl,HAg⟩:=hrel;have HXR:=aB (eB HX.o HAg.o);have h4a:wr.cell? ⟨W.heap.size,13,none⟩=some (.slice ag q.group.length cg):=(aG HXR.o.1 13).trans rfl;have h4b:wr.cell? ⟨W.heap.size+1,13,none⟩=some (.slice bg q.group.length dg):=(aG HXR.o.2 13).trans rfl;by_cases hlt:j<q.group.length
    ·as_aux_lemma=>
     obtain⟨b,off,s,ha,hbl,hcs,hr⟩:=HG.o.1 j hlt;obtain⟨b2,off2,s2,ha2,hbl2,hcs2,hr2⟩:=HG.o.2 j hlt;subst ha ha2;have HSY:=aB (HQ.o.group _ (dS hlt));obtain⟨asl,cs,rfl⟩:=hr.shape;obtain⟨asl2,cs2,rfl⟩:=hr2.shape;have HBW:=aB (HB.o.call HAg.o);have HR:=aB (bT (hr.reads.bl HBW.o) (hr2.reads.bl HBW.o))
     replace hcs:=hcs.keep (HBW.o.block b hbl)
     replace hcs2:=hcs2.keep (HBW.o.block b2 hbl2)
     have hz:=HBW.o.size;have hlt':(j:Int)<(q.group.length:Int):=aE;clear hr hr2;generalize q.group[j]=y at *;obtain⟨yk,⟨y1,y2,y3⟩,yt,yn,yo,ya⟩:=y;simp only[fEx,id,Ex.args] at HR;have HCS:=aB (show d2k wr b (off+j * 8) [.int .i64 yk,.int .i64 y1,.int .i64 y2,S y3,S yt,S yn,.int .i64 yo,.slice asl ya.length cs]/\d2k wr b2 (off2+j * 8) [.int .i64 yk,.int .i64 y1,.int .i64 y2,S y3,S yt,S yn,.int .i64 yo,.slice asl2 ya.length cs2] from⟨hcs,hcs2⟩);clear hcs hcs2;go_wp2_with fail;refine wp_region_noPanic (bM (fun B=>(B.heap[W.heap.size]?=some (.cells (quC q (.slice ai q.items.length ci) (.slice aj q.joins.length cj) (.slice aw q.wher.args.length cw) (.slice (some ⟨b,off,none⟩) q.group.length cg) (.slice ah q.having.args.length ch) (.slice ao q.orders.length co)).toArray 36 (0,0))/\B.heap[W.heap.size+1]?=some (.cells (quC q (.slice bi q.items.length di) (.slice bj q.joins.length dj) (.slice bw q.wher.args.length dw) (.slice (some ⟨b2,off2,none⟩) q.group.length dg) (.slice bh q.having.args.length dh) (.slice bo q.orders.length do')).toArray 36 (0,0)))/\d2k B b (off+j * 8) [.int .i64 yk,.int .i64 y1,.int .i64 y2,S y3,S yt,S yn,.int .i64 yo,.slice asl ya.length cs]/\d2k B b2 (off2+j * 8) [.int .i64 yk,.int .i64 y1,.int .i64 y2,S y3,S yt,S yn,.int .i64 yo,.slice asl2 ya.length cs2]) ((.take 0 (.take 1 (.take 2 (.take 3 (.take 4 (.take 5 (.take 6 (.take 7 (.take 8 (.take 9 (.one 10 (.take 11 .done))))))))))))) ab ab ab (fun _ _ _ _ _ h=>h) (⟨eB HXR.o ((Bl.refl _).drew),HCS.o.1.keep (((Bl.refl _).drew).block b aE),HCS.o.2.keep (((Bl.refl _).drew).block b2 aE)⟩) ?_);intro wd HWD hY;iterate 10 (refine aI rfl ae (by intro w hSw;(try dsimp only at hSw);have q4a:w.cell? ⟨W.heap.size,13,none⟩=some (.slice (some ⟨b,off,none⟩) q.group.length cg):=(aG hSw.1.1 13).trans rfl;have q4b:w.cell? ⟨W.heap.size+1,13,none⟩=some (.slice (some ⟨b2,off2,none⟩) q.group.length dg):=(aG hSw.1.2 13).trans rfl;have e0:=d2k.cell0 (hSw.2.1) rfl;have e1:=hSw.2.1 1 _ rfl;have e2:=hSw.2.1 2 _ rfl;have e3:=hSw.2.1 3 _ rfl;have e4:=hSw.2.1 4 _ rfl;have e5:=hSw.2.1 5 _ rfl;have e6:=hSw.2.1 6 _ rfl;have e7:=hSw.2.1 7 _ rfl;have f0:=d2k.cell0 (hSw.2.2) rfl;have f1:=hSw.2.2 1 _ rfl;have f2:=hSw.2.2 2 _ rfl;have f3:=hSw.2.2 3 _ rfl;have f4:=hSw.2.2 4 _ rfl;have f5:=hSw.2.2 5 _ rfl;have f6:=hSw.2.2 6 _ rfl;have f7:=hSw.2.2 7 _ rfl;go_simp;(try(first |with_reducible rfl|rfl))) ?_;(try simp only[aK,aA,aD,aF]))
     refine aL rfl (fun K hK=>?_);go_simp;(refine(HSY.o _ _ _ ⟨_,rfl,HR.o.1.bl HWD.o⟩ ⟨_,rfl,HR.o.2.bl HWD.o⟩).mono ?_;rintro e w3 ⟨rfl,hb3⟩;have hb:=hb3);go_wp2_with fail;refine hK.o _ _ (⟨eB hY.1 hb,hY.2.1.keep (hb.block b (hY.2.1.lt (Nat.succ_pos _))),hY.2.2.keep (hb.block b2 (hY.2.2.lt (Nat.succ_pos _)))⟩) ?_;clear hY hK K;intro hY;clear hb;refine aI rfl ae (by intro w hSw;(try dsimp only at hSw);have q4a:w.cell? ⟨W.heap.size,13,none⟩=some (.slice (some ⟨b,off,none⟩) q.group.length cg):=(aG hSw.1.1 13).trans rfl;have q4b:w.cell? ⟨W.heap.size+1,13,none⟩=some (.slice (some ⟨b2,off2,none⟩) q.group.length dg):=(aG hSw.1.2 13).trans rfl;have e0:=d2k.cell0 (hSw.2.1) rfl;have e1:=hSw.2.1 1 _ rfl;have e2:=hSw.2.1 2 _ rfl;have e3:=hSw.2.1 3 _ rfl;have e4:=hSw.2.1 4 _ rfl;have e5:=hSw.2.1 5 _ rfl;have e6:=hSw.2.1 6 _ rfl;have e7:=hSw.2.1 7 _ rfl;have f0:=d2k.cell0 (hSw.2.2) rfl;have f1:=hSw.2.2 1 _ rfl;have f2:=hSw.2.2 2 _ rfl;have f3:=hSw.2.2 3 _ rfl;have f4:=hSw.2.2 4 _ rfl;have f5:=hSw.2.2 5 _ rfl;have f6:=hSw.2.2 6 _ rfl;have f7:=hSw.2.2 7 _ rfl;go_simp;(try(first |with_reducible rfl|rfl))) ?_;(try simp only[aK,aA,aD,aF])
     refine fO (bF ?_);have HB1:=aB ((HAg.o.call HWD.o).call hb3);clear hY hb3;go_wp2;go_roundw
     case rel=>exact⟨j+1,by omega,by go_num,HB1.o⟩
     case measure=>simp[intOf];omega
    ·as_aux_lemma=>
     obtain rfl:j=q.group.length:=aE;clear hlt hj;go_wp2_with fail;go_loopw [7] (fun i wr=>∃j:Nat,j<=q.orders.length/\i= .int .i64 (j:Int)/\Hid (Bl w9 wr)) (fun i _=>q.orders.length-(intOf i).toNat)
     case atStart=>exact⟨0,dL _,rfl,HAg.o⟩
     case round=>
      obtain⟨j,hj,rfl,HAo⟩:=hrel;have HXR:=aB (eB HX.o HAo.o);have h4a:wr.cell? ⟨W.heap.size,22,none⟩=some (.slice ao q.orders.length co):=(aG HXR.o.1 22).trans rfl;have h4b:wr.cell? ⟨W.heap.size+1,22,none⟩=some (.slice bo q.orders.length do'):=(aG HXR.o.2 22).trans rfl;by_cases hlt:j<q.orders.length
      ·as_aux_lemma=>
       obtain⟨b,off,s,ha,hbl,hcs,hr⟩:=HO.o.1 j hlt;obtain⟨b2,off2,s2,ha2,hbl2,hcs2,hr2⟩:=HO.o.2 j hlt;subst ha ha2;have HSY:=aB (HQ.o.orders _ (dS hlt));obtain⟨asl,cs,rfl⟩:=hr.shape;obtain⟨asl2,cs2,rfl⟩:=hr2.shape;have HBW:=aB (HB.o.call HAo.o);have HR:=aB (bT (hr.reads.bl HBW.o) (hr2.reads.bl HBW.o))
       replace hcs:=hcs.keep (HBW.o.block b hbl)
       replace hcs2:=hcs2.keep (HBW.o.block b2 hbl2)
       have hz:=HBW.o.size;have hlt':(j:Int)<(q.orders.length:Int):=aE;clear hr hr2;generalize q.orders[j]=y at *;obtain⟨⟨yk,⟨y1,y2,y3⟩,yt,yn,yo,ya⟩,dn⟩:=y;simp only[fOd,Ex.args] at HR;have HCS:=aB (show d2k wr b (off+j * 9) [.int .i64 yk,.int .i64 y1,.int .i64 y2,S y3,S yt,S yn,.int .i64 yo,.slice asl ya.length cs,.bool dn]/\d2k wr b2 (off2+j * 9) [.int .i64 yk,.int .i64 y1,.int .i64 y2,S y3,S yt,S yn,.int .i64 yo,.slice asl2 ya.length cs2,.bool dn] from⟨hcs,hcs2⟩);clear hcs hcs2;go_wp2_with fail;refine wp_region_noPanic (bM (fun B=>(B.heap[W.heap.size]?=some (.cells (quC q (.slice ai q.items.length ci) (.slice aj q.joins.length cj) (.slice aw q.wher.args.length cw) (.slice ag q.group.length cg) (.slice ah q.having.args.length ch) (.slice (some ⟨b,off,none⟩) q.orders.length co)).toArray 36 (0,0))/\B.heap[W.heap.size+1]?=some (.cells (quC q (.slice bi q.items.length di) (.slice bj q.joins.length dj) (.slice bw q.wher.args.length dw) (.slice bg q.group.length dg) (.slice bh q.having.args.length dh) (.slice (some ⟨b2,off2,none⟩) q.orders.length do')).toArray 36 (0,0)))/\d2k B b (off+j * 9) [.int .i64 yk,.int .i64 y1,.int .i64 y2,S y3,S yt,S yn,.int .i64 yo,.slice asl ya.length cs,.bool dn]/\d2k B b2 (off2+j * 9) [.int .i64 yk,.int .i64 y1,.int .i64 y2,S y3,S yt,S yn,.int .i64 yo,.slice asl2 ya.length cs2,.bool dn]) ((.take 0 (.take 1 (.take 2 (.take 3 (.take 4 (.take 5 (.take 6 (.take 7 (.take 8 (.take 9 (.take 10 (.take 11 (.take 12 (.take 13 (.take 14 (.take 15 (.take 16 (.take 17 (.take 18 (.take 19 (.take 20 (.take 21 (.take 22 (.take 23 (.take 24 (.take 25 (.one 26 (.take 27 (.take 28 .done)))))))))))))))))))))))))))))) ab ab ab (fun _ _ _ _ _ h=>h) (⟨eB HXR.o ((Bl.refl _).drew),HCS.o.1.keep (((Bl.refl _).drew).block b aE),HCS.o.2.keep (((Bl.refl _).drew).block b2 aE)⟩) ?_);intro wd HWD hY;iterate 26 (refine aI rfl ae (by intro w hSw;(try dsimp only at hSw);have q4a:w.cell? ⟨W.heap.size,22,none⟩=some (.slice (some ⟨b,off,none⟩) q.orders.length co):=(aG hSw.1.1 22).trans rfl;have q4b:w.cell? ⟨W.heap.size+1,22,none⟩=some (.slice (some ⟨b2,off2,none⟩) q.orders.length do'):=(aG hSw.1.2 22).trans rfl;have e0:=d2k.cell0 (hSw.2.1) rfl;have e1:=hSw.2.1 1 _ rfl;have e2:=hSw.2.1 2 _ rfl;have e3:=hSw.2.1 3 _ rfl;have e4:=hSw.2.1 4 _ rfl;have e5:=hSw.2.1 5 _ rfl;have e6:=hSw.2.1 6 _ rfl;have e7:=hSw.2.1 7 _ rfl;have e8:=hSw.2.1 8 _ rfl;have f0:=d2k.cell0 (hSw.2.2) rfl;have f1:=hSw.2.2 1 _ rfl;have f2:=hSw.2.2 2 _ rfl;have f3:=hSw.2.2 3 _ rfl;have f4:=hSw.2.2 4 _ rfl;have f5:=hSw.2.2 5 _ rfl;have f6:=hSw.2.2 6 _ rfl;have f7:=hSw.2.2 7 _ rfl;have f8:=hSw.2.2 8 _ rfl;go_simp;(try(first |with_reducible rfl|rfl))) ?_;(try simp only[aK,aA,aD,aF]))
       refine aL rfl (fun K hK=>?_);go_simp;(refine(HSY.o _ _ _ ⟨_,rfl,HR.o.1.bl HWD.o⟩ ⟨_,rfl,HR.o.2.bl HWD.o⟩).mono ?_;rintro e w3 ⟨rfl,hb3⟩;have hb:=hb3);go_wp2_with fail;refine hK.o _ _ (⟨eB hY.1 hb,hY.2.1.keep (hb.block b (hY.2.1.lt (Nat.succ_pos _))),hY.2.2.keep (hb.block b2 (hY.2.2.lt (Nat.succ_pos _)))⟩) ?_;clear hY hK K;intro hY;clear hb;iterate 2 (refine aI rfl ae (by intro w hSw;(try dsimp only at hSw);have q4a:w.cell? ⟨W.heap.size,22,none⟩=some (.slice (some ⟨b,off,none⟩) q.orders.length co):=(aG hSw.1.1 22).trans rfl;have q4b:w.cell? ⟨W.heap.size+1,22,none⟩=some (.slice (some ⟨b2,off2,none⟩) q.orders.length do'):=(aG hSw.1.2 22).trans rfl;have e0:=d2k.cell0 (hSw.2.1) rfl;have e1:=hSw.2.1 1 _ rfl;have e2:=hSw.2.1 2 _ rfl;have e3:=hSw.2.1 3 _ rfl;have e4:=hSw.2.1 4 _ rfl;have e5:=hSw.2.1 5 _ rfl;have e6:=hSw.2.1 6 _ rfl;have e7:=hSw.2.1 7 _ rfl;have e8:=hSw.2.1 8 _ rfl;have f0:=d2k.cell0 (hSw.2.2) rfl;have f1:=hSw.2.2 1 _ rfl;have f2:=hSw.2.2 2 _ rfl;have f3:=hSw.2.2 3 _ rfl;have f4:=hSw.2.2 4 _ rfl;have f5:=hSw.2.2 5 _ rfl;have f6:=hSw.2.2 6 _ rfl;have f7:=hSw.2.2 7 _ rfl;have f8:=hSw.2.2 8 _ rfl;go_simp;(try(first |with_reducible rfl|rfl))) ?_;(try simp only[aK,aA,aD,aF]))
       refine fO (bF ?_);have HB1:=aB ((HAo.o.call HWD.o).call hb3);clear hY hb3;go_wp2;go_roundw
       case rel=>exact⟨j+1,by omega,by go_num,HB1.o⟩
       case measure=>simp[intOf];omega
      ·as_aux_lemma=>
       obtain rfl:j=q.orders.length:=aE;clear hlt hj;go_wp2;go_ret;exact⟨rfl,HB.o.call HAo.o⟩
end
section
section
variable {P:Program}
theorem d9p:∀(vs pre post:List Value),post.length=vs.length->(vs.zipIdx pre.length).foldl (fun(cs:Array Value) (p:Value×Nat)=>cs.setIfInBounds (0+p.2) p.1) (pre++post).toArray=(pre++vs).toArray
 |[],pre,post,h=>by
  obtain rfl:post=[]:=lM h;rfl
 |v::r,pre,[],h=>by cases h
 |v::r,pre,o::post,h=>by
  rw[List.zipIdx_cons,List.foldl_cons];have e:(pre++o::post).toArray.setIfInBounds (0+pre.length) v=((pre++[v])++post).toArray:=aa;show(r.zipIdx (pre.length+1)).foldl _ ((pre++o::post).toArray.setIfInBounds (0+pre.length) v)=_;rw[e];have h2:=d9p r (pre++[v]) post ay;rw[bD] at h2;simpa using h2
theorem e0y{v:Value}{vs:List Value}{n:Nat}{cells:Array Value}(hv:v.cells=vs.toArray)(hn:vs.length=n)(hc:cells.size=n):Instr.fill (fun i=>some (i * n,n)) cells [(0,v)]=some vs.toArray:=by
 obtain⟨l⟩:=cells;have hl:l.length=vs.length:=(by simpa[hn] using hc);have h:=d9p vs [] l hl;simp only[cB,bL] at h;have hs:vs.toArray.size=n:=(by simpa using hn);simp only[Instr.fill,hv,Nat.zero_mul];rw[if_neg (by simp[hn,hl])]
 congr 1
 refine Eq.trans ?_ h;simp
theorem d8l{ops:Array Oper}{rest:List Oper}{o:Oper}{a:Act}{w:World}{Q:Exit->Act->World->Prop}(hgd:o.guard=none){t e:TypeId}{y:Operand}(ho:o.op= .buildSlice t 1 #[(0,y)])(ht:P.underlying t=some (.slice e)){vs:List Value}(hy:(a.eval y).cells=vs.toArray)
  (hi:(P.info? e).map (fun i=>(i.zero.isSome,i.size))=some (true,vs.length)) (h0:decide (0<vs.length/\vs.length<=1000)=true)
  (h:wpList P ops Q rest (a.put o.dst (.slice (some ⟨w.heap.size,0,none⟩) 1 1)) (w.alloc (.cells vs.toArray e))):wpList P ops Q (o::rest) a w:=by
 obtain⟨i,hi,z,hz,hs⟩:∃i,P.info? e=some i/\∃z,i.zero=some z/\i.size=vs.length:=by
  cases hq:P.info? e with
  |none=>rw[hq] at hi;cases hi
  |some i=>
   rw[hq] at hi;simp only[lX,Option.some.injEq,Prod.mk.injEq] at hi;obtain⟨z,hz⟩:=Option.isSome_iff_exists.1 hi.1;exact⟨i,rfl,z,hz,hi.2⟩
 refine wpList_plain hgd fun K hK=>?_;have h0':=of_decide_eq_true h0;unfold Oper.wp execOp;simp only[ho,Instr.buildSlice];have hne:vs≠[]:=fun e=>(by rw[e] at h0';exact absurd h0'.1 ak);simp[run_underlying ht,sizeOf,typeInfo,zeroValue,hi,hz,hs,newRow];rw[if_neg aE,if_neg hne,e0y hy rfl aa];simp[newObj];exact hK _ _ h
end
theorem jo1:(prog.info? 78).map (fun i=>(i.zero.isSome,i.size))=some (true,10):=by kernel_rfl
theorem ex1:(prog.info? 33).map (fun i=>(i.zero.isSome,i.size))=some (true,8):=by kernel_rfl
end
section
abbrev zQL:List Value:=[.bool false,.slice none 0 0,S [],S [],.slice none 0 0,.int .i64 0,.int .i64 0,.int .i64 0,S [],S [],S [],.int .i64 0,.slice none 0 0,.slice none 0 0,.int .i64 0,.int .i64 0,.int .i64 0,S [],S [],S [],.int .i64 0,.slice none 0 0,.slice none 0 0,.int .i64 0]
abbrev zQM:List Value:=[.bool false,.slice none 0 0,S [],S [],.slice none 0 0,.int .i64 0,.int .i64 0,.int .i64 0,S [],S [],S [],.int .i64 0,.slice none 0 0,.slice none 0 0,.int .i64 0,.int .i64 0,.int .i64 0,S [],S [],S [],.int .i64 0,.slice none 0 0,.slice none 0 0,.int .i64 (-1)]
def e0z(p:Nat->Prop)(g cap:Nat)(ts:List Tok)(W:World)(r:d2u Qu)(e:Ending)(w':World):Prop:=Bl W w'/\∃k' q si sj sw sg sh so c,k'<ts.length/\e= .returned (.tuple #[RS g ts.length cap k',QV q si sj sw sg sh so,.int .i64 c])/\
 d2t (fun b=>p b\/W.heap.size<=b) w' q si sj sw sg sh so/\((c=0/\r= .good k' q)\/((c=260\/c=261\/c=270)/\r= .bad c))
theorem e3f(ts:List Tok)(k:Nat):d6b ts k=match bH ts k [d3h] with
  |none=> .bad 261
  |some k1=>(d7m ts ((bH ts k1 [d2s]).getD k1)).bind fun k2 items=>match bH ts k2 [d5p] with
   |none=> .bad 261
   |some k3=>(d3b ts k3).bind fun k4 frm=>e6l ts ⟨(bH ts k1 [d2s]).isSome,items,frm,[],zeroE,[],zeroE,[],-1⟩ k4:=rfl
structure YQ(W A:World)(g n cap k:Nat)(q:Qu)(si sj sw sg sh so:Value):Prop where
 f:Fx W A (sC g n cap k) zSt 36 zQL
 m:A.heap[W.heap.size+3]?=some (.cells (quC q si sj sw sg sh so).toArray 36 (0,0))
 p:d2t (fun b=>W.heap.size+4<=b) A q si sj sw sg sh so
section
variable {W A B:World} {g n cap k k':Nat} {q q':Qu} {si sj sw sg sh so si' sj' sw' sg' sh' so':Value}
theorem YQ.size(h:YQ W A g n cap k q si sj sw sg sh so):W.heap.size+3<A.heap.size:=lt_of_heap h.m
theorem YQ.call(h:YQ W A g n cap k q si sj sw sg sh so)(hb:Bl A B):YQ W B g n cap k q si sj sw sg sh so:=⟨h.f.call hb,(hb.block _ h.size).trans h.m,h.p.bl hb⟩
theorem YQ.putS(h:YQ W A g n cap k q si sj sw sg sh so)(hB:But W.heap.size A B)(hx:B.heap[W.heap.size]?=some (.cells (sC g n cap k').toArray 54 (0,0))):YQ W B g n cap k' q si sj sw sg sh so:=⟨h.f.putS hB hx,(hB.same _ aE).trans h.m,h.p.but hB (fun i hi=>by omega)⟩
theorem YQ.putQ(h:YQ W A g n cap k q si sj sw sg sh so)(hB:But (W.heap.size+3) A B)(hx:B.heap[W.heap.size+3]?=some (.cells (quC q' si' sj' sw' sg' sh' so').toArray 36 (0,0)))(hp:d2t (fun b=>W.heap.size+4<=b) A q' si' sj' sw' sg' sh' so'):YQ W B g n cap k q' si' sj' sw' sg' sh' so':=⟨h.f.other hB aE,hx,hp.but hB (fun i hi=>by omega)⟩
abbrev jCs(jt jal:List UInt8)(xk x1 x2:Int)(x3 xt xn:List UInt8)(xo:Int)(s:Value):List Value:=[S jt,S jal,.int .i64 xk,.int .i64 x1,.int .i64 x2,S x3,S xt,S xn,.int .i64 xo,s]
theorem Fx.own{W A B:World}{cs rs xs:List Value}{T:TypeId}{r:Option Nat}(h:Fx W A cs rs T xs)(hg:A.grownBy B r)(hr:∀j,r=some j->W.heap.size+3<=j):Fx W B cs rs T xs:=
 ⟨h.toFs.own hg (fun j e=>by have:=hr j e;omega),(hg.block _ h.size (fun e=>by have:=hr _ e.symm;omega)).trans h.x⟩
structure YJ(W A:World)(g n cap N k:Nat)(d:Bool)(items:List It)(frm:So)(si v:Value)(acc:List (Jo×Value)):Prop where
 f:Fx W A (sC g n cap k) zSt 36 zQL
 m:A.heap[W.heap.size+3]?=some (.cells (quC ⟨d,items,frm,[],zeroE,[],zeroE,[],-1⟩ si v d2i d2i d2i d2i).toArray 36 (0,0))
 i:d2p fIt (fun b=>W.heap.size+4<=b/\b<N) A si items
 o:A.ownsRow N 78 10 v acc.length (d4w fJo acc)
 r:∀q∈acc,bG (fun b=>N<=b/\some b≠v.ownBlock) A q.2 (Form.ex fJo q.1).args
 z:N<=A.heap.size
 y:W.heap.size+4<=N
variable {N:Nat} {d:Bool} {items:List It} {frm:So} {v:Value} {acc:List (Jo×Value)} {b:Nat}
theorem YJ.size(h:YJ W A g n cap N k d items frm si v acc):W.heap.size+3<A.heap.size:=lt_of_heap h.m
theorem YJ.call(h:YJ W A g n cap N k d items frm si v acc)(hb:Bl A B):YJ W B g n cap N k d items frm si v acc:=
 ⟨h.f.call hb,(hb.block _ h.size).trans h.m,h.i.bl hb,gY hb h.o,fun q hq=>(h.r q hq).bl hb,jH h.z hb.size,h.y⟩
theorem YJ.putS(h:YJ W A g n cap N k d items frm si v acc)(hB:But W.heap.size A B)(hx:B.heap[W.heap.size]?=some (.cells (sC g n cap k').toArray 54 (0,0))):YJ W B g n cap N k' d items frm si v acc:=
 have hy:=h.y
 ⟨h.f.putS hB hx,(hB.same _ aE).trans h.m,h.i.but hB (fun i hi=>by omega),d3q h.o hB aE,fun q hq=>(h.r q hq).but hB (fun i hi=>by omega),by rw[hB.size];exact h.z,h.y⟩
theorem YJ.round(h:YJ W A g n cap N k d items frm si v acc)(hB:But b A B)(hb:N<=b)(hv:some b≠v.ownBlock)(hr:∀q∈acc,bG (fun i=>N<=i/\some i≠v.ownBlock) B q.2 (Form.ex fJo q.1).args):YJ W B g n cap N k d items frm si v acc:=
 have hy:=h.y
 ⟨h.f.other hB aE,(hB.same _ aE).trans h.m,h.i.but hB (fun i hi=>by omega),d8t h.o hB hv,hr,by rw[hB.size];exact h.z,h.y⟩
theorem YJ.rest(h:YJ W A g n cap N k d items frm si v acc):YQ W A g n cap k ⟨d,items,frm,acc.map (·.1),zeroE,[],zeroE,[],-1⟩ si v d2i d2i d2i d2i:=
 have hy:=h.y
 ⟨h.f,h.m,⟨h.i.of fun b _ hb=>hb.1,d4k (F:=fJo) h.o (fun b hb _=>by omega) (fun q hq=>(h.r q hq).of fun b _ hb=>by have:=hb.1;omega),.nil _ _ _ _,.nil _ _ _ _,.nil _ _ _ _,.nil _ _ _ _⟩⟩
end
theorem e2q{W:World}{g cap k:Nat}{ts:List Tok}(h:Row W g ts)(hT:lC ts)(hfew:ts.length<=100000)(hk:k<ts.length)
  (hbeh:∀(w:World) (k:Nat) (q:Qu) (si sj sw:Value) (p:Nat->Prop),Row w g ts->k<ts.length->q.group=[]->q.having=zeroE->q.orders=[]->q.limit= -1->d2t p w q si sj sw d2i d2i d2i->eu 133 #[RS g ts.length cap k,QV q si sj sw d2i d2i d2i] w (e0z p g cap ts w (e2o ts q k))):
  eu 64 #[RS g ts.length cap k] W (e0z (fun _=>False) g cap ts W (d6b ts k)):=by
 obtain⟨R,HR⟩:∃R,Hid (R=d6b ts k):=⟨_,rfl⟩
 rw[<-HR.o];have HRQ:=aB (HR.o.trans (e3f ts k));have H:=aB h;have HTK:=aB hT;have HK:=aB hk;have HBEH:=aB hbeh;have HQ0:=aB (aV (((W.alloc (.cells (sC g ts.length cap k).toArray 54)).alloc (.cells zSt.toArray 54)).alloc (.cells zQL.toArray 36)) (.cells zQL.toArray 36) (k:=W.heap.size+1+1+1) aa);have HF0:=aB ((Fx.start W (sC g ts.length cap k) 36 zQL).call ((Bl.refl _).alloc (.cells zQL.toArray 36)));clear h hT hk HR hbeh;go_enter func64,ntmps64;go_wp2_with (refine bA rfl rfl rfl rfl zQM HQ0.o rfl rfl tC rfl ?_)
 intro w0 hB0 hX0;have Y0:Hid (YQ W w0 g ts.length cap k (quA false [] ⟨[],[]⟩) d2i d2i d2i d2i d2i d2i):=⟨HF0.o.other hB0 (aH _),hX0,⟨.nil _ _ _ _,.nil _ _ _ _,.nil _ _ _ _,.nil _ _ _ _,.nil _ _ _ _,.nil _ _ _ _⟩⟩
 clear hB0 hX0 HQ0 HF0;obtain⟨s0,s1,-,-,-⟩:=aU Y0.o.f.s;go_wp2_with fail;refine(dH H.o ((Y0).o.f.bl.alloc _) hfew HK.o 1 [d3h] rfl aa (aV _ _ aa)).mono ?_;rintro e w9 ⟨rfl,hb9⟩;rw[d2x];have Y9:=aB ((Y0).o.call (((Bl.refl _).alloc _).call hb9));clear hb9 s0 s1;clear Y0;cases ht:bH ts k [d3h] with
 |none=>
  as_aux_lemma=>
  have HE9:=aB (show R= .bad 261 from by rw[HRQ.o,ht]);have HC9:Hid ((261:Int)=260\/(261:Int)=261\/(261:Int)=270):= .inr (.inl rfl);clear ht HRQ;go_wp2_with (refine bA rfl rfl rfl rfl (sC g ts.length cap k) (Y9).o.f.s rfl rfl d2j rfl ?_)
  intro w7 hB7 hX7;have Y7:=aB ((Y9).o.putS hB7 hX7);have HB7:=aB hB7;obtain⟨s0,s1,-,-,-⟩:=aU hX7;clear hB7 hX7;have HKK9:=HK;clear Y9 s0 s1;go_wp2_with fail;have HY9:=Y7;have HO9:=aB HY9.o.p.one;refine wp_region_noPanic (bM (fun B=>B.heap[W.heap.size]?=some (.cells (sC g ts.length cap k).toArray 54 (0,0))/\B.heap[W.heap.size+3]?=some (.cells (quC (quA false [] ⟨[],[]⟩) d2i d2i d2i d2i d2i d2i).toArray 36 (0,0))) ((.take 0 (.take 1 (.one 2 (.one 3 (.take 4 .done)))))) ab ab ab (fun _ _ _ _ _ h=>h) (eB ⟨HY9.o.f.s,HY9.o.m⟩ ((Bl.refl _).drew)) ?_);intro wd HWD hY;refine aI rfl ae (fun w hSw=>eD rfl rfl hSw.1 underlying54 rfl d2j) ?_;(try simp only[aK,aA,aD,aF])
  refine aI rfl ae (fun w hSw=>eD rfl rfl hSw.2 underlying36 rfl tC) ?_;(try simp only[aK,aA,aD,aF])
  refine aL rfl (fun K hK=>?_);rw[if_pos ae];refine bC rfl rfl rfl (sC g ts.length cap k) (HY9.o.f.call HWD.o).r rfl rfl d2j rfl ?_;intro w8 hB8 hX8;refine hK.o _ _ (pV hY hB8 aE aE) ?_;clear hY hK K;intro hY;(try simp only[aK])
  refine aL rfl (fun K hK=>?_);rw[if_pos ae];refine bC rfl rfl rfl (quC (quA false [] ⟨[],[]⟩) d2i d2i d2i d2i d2i d2i) ((HY9.o.f.call HWD.o).putR hB8 hX8).x rfl rfl tC HO9.o ?_;intro w9 hB9 hX9;refine hK.o _ _ (pV hY hB9 aE aE) ?_;clear hY hK K;intro hY;(try simp only[aK])
  refine cT ?_;refine fO (bF ?_);have HF9:=aB (((HY9.o.f.call HWD.o).putR hB8 hX8).putX hB9 hX9);have HP9:=aB ((((HY9.o.p.bl HWD.o).but hB8 (fun i hi=>by omega)).but hB9 (fun i hi=>by omega)).of (r:=fun b=>False\/W.heap.size<=b) fun b _ hb=> .inr aE);clear hB8 hX8 hB9 hX9;go_wp2;exact bodyPost_ret (HF9.o.results rfl rfl rfl rfl underlying36 rfl tC) rfl ⟨HF9.o.bl,_,_,_,_,_,_,_,_,261,HKK9.o,rfl,HP9.o,.inr ⟨by first |exact HC9.o|exact .inr (.inl rfl),HE9.o⟩⟩
 |some k1=>
 have hk1:=b8z HK.o ht;have HR1:=aB (HRQ.o.trans (by rw[ht]));clear ht HRQ;go_wp2_with (refine bA rfl rfl rfl rfl (sC g ts.length cap k1) (Y9).o.f.s rfl rfl d2j rfl ?_)
 intro w1 hB1 hX1;have Y1:=aB ((Y9).o.putS hB1 hX1);have HB1:=aB hB1;obtain⟨s0,s1,-,-,-⟩:=aU hX1;clear hB1 hX1;clear Y9 HB1;go_wp2_with fail;refine(dH H.o ((Y1).o.f.bl.alloc _) hfew hk1 1 [d2s] rfl aa (aV _ _ aa)).mono ?_;rintro e w9 ⟨rfl,hb9⟩;rw[d2x];have Y9:=aB ((Y1).o.call (((Bl.refl _).alloc _).call hb9));clear hb9 s0 s1;clear Y1;have hkl:(bH ts k1 [d2s]).getD k1<ts.length:=by
  cases ht:bH ts k1 [d2s] with
  |none=>exact hk1
  |some k'=>exact b8z hk1 ht
 generalize (bH ts k1 [d2s]).isSome=d at *;generalize (bH ts k1 [d2s]).getD k1=kd at *;go_wp2_with (refine bA rfl rfl rfl rfl (sC g ts.length cap kd) (Y9).o.f.s rfl rfl d2j rfl ?_)
 intro w2 hB2 hX2;have Y2:=aB ((Y9).o.putS hB2 hX2);have HB2:=aB hB2;obtain⟨s0,s1,-,-,-⟩:=aU hX2;clear hB2 hX2;go_wp2_with (refine bA rfl rfl rfl rfl (quC (quA d [] ⟨[],[]⟩) d2i d2i d2i d2i d2i d2i) (Y2).o.m rfl rfl e3y rfl ?_)
 intro w3 hB3 hX3;have Y3:=aB ((Y2).o.putQ (q':=(quA d [] ⟨[],[]⟩)) hB3 hX3 ⟨.nil _ _ _ _,.nil _ _ _ _,.nil _ _ _ _,.nil _ _ _ _,.nil _ _ _ _,.nil _ _ _ _⟩);have S3:=aB ((hB3.same W.heap.size aE).trans (Y2).o.f.s);clear hB3 hX3 s0 s1;obtain⟨s0,s1,-,-,-⟩:=aU S3.o;clear S3;clear Y9 Y2 HB2;go_wp2_with fail;refine(d7q (H.o.bl Y3.o.f.bl) HTK.o hfew hkl).mono ?_;rintro e w4 ⟨hb4,k4,items,v,c,hk4,rfl,hrow,hcase⟩;have Y4:=aB (Y3.o.call hb4);have hz3:=Y3.o.size;obtain⟨ai,ci,rfl,-⟩:=hrow.shape;have HI4:=aB (show d2p fIt (fun b=>W.heap.size+4<=b) w4 (.slice ai items.length ci) items from hrow.of fun b _ (hb:_<=b)=>by omega);have HC:=aB hcase;clear hb4 hrow hcase s0 s1 Y3 hz3;go_wp2_with (refine bA rfl rfl rfl rfl (sC g ts.length cap k4) (Y4).o.f.s rfl rfl d2j rfl ?_)
 intro w5 hB5 hX5;have Y5:=aB ((Y4).o.putS hB5 hX5);have HB5:=aB hB5;obtain⟨s0,s1,-,-,-⟩:=aU hX5;clear hB5 hX5;go_wp2_with (refine bA rfl rfl rfl rfl (quC (quA d items ⟨[],[]⟩) (.slice ai items.length ci) d2i d2i d2i d2i d2i) (Y5).o.m rfl rfl e0r rfl ?_)
 intro w6 hB6 hX6;have Y6:=aB ((Y5).o.putQ (q':=(quA d items ⟨[],[]⟩)) hB6 hX6 ⟨HI4.o.but HB5.o (fun i hi=>by omega),.nil _ _ _ _,.nil _ _ _ _,.nil _ _ _ _,.nil _ _ _ _,.nil _ _ _ _⟩);have S6:=aB ((hB6.same W.heap.size aE).trans (Y5).o.f.s);clear hB6 hX6 s0 s1;obtain⟨s0,s1,-,-,-⟩:=aU S6.o;clear S6;clear Y4 Y5 HB5 HI4;rcases HC.o with⟨rfl,hr⟩|⟨hc,hr,rfl⟩
 rotate_left
 ·as_aux_lemma=>
  have HE9:=aB (show R= .bad c from by rw[HR1.o,hr];rfl);have HC9:=aB hc;have HKK9:=aB hk4;have hc0:¬c=0:=aE;have hcb:(c==0)=false:=ap;have hcb':(c != 0)=true:=ap;clear hr hc HC HR1 s0 s1;go_wp2_with fail;have HY9:=Y6;have HO9:=aB HY9.o.p.one;refine wp_region_noPanic (bM (fun B=>B.heap[W.heap.size]?=some (.cells (sC g ts.length cap k4).toArray 54 (0,0))/\B.heap[W.heap.size+3]?=some (.cells (quC (quA d [] ⟨[],[]⟩) (.slice ai ([]:List It).length ci) d2i d2i d2i d2i d2i).toArray 36 (0,0))) ((.take 0 (.take 1 (.take 2 (.one 3 (.one 4 (.take 5 .done))))))) ab ab ab (fun _ _ _ _ _ h=>h) (eB ⟨HY9.o.f.s,HY9.o.m⟩ ((Bl.refl _).drew)) ?_);intro wd HWD hY;refine aI rfl ae (fun w hSw=>eD rfl rfl hSw.1 underlying54 rfl d2j) ?_;(try simp only[aK,aA,aD,aF])
  refine aI rfl ae (fun w hSw=>eD rfl rfl hSw.2 underlying36 rfl tC) ?_;(try simp only[aK,aA,aD,aF])
  refine cT ?_;refine aL rfl (fun K hK=>?_);rw[if_pos ae];refine bC rfl rfl rfl (sC g ts.length cap k4) (HY9.o.f.call HWD.o).r rfl rfl d2j rfl ?_;intro w8 hB8 hX8;refine hK.o _ _ (pV hY hB8 aE aE) ?_;clear hY hK K;intro hY;(try simp only[aK])
  refine aL rfl (fun K hK=>?_);rw[if_pos ae];refine bC rfl rfl rfl (quC (quA d [] ⟨[],[]⟩) (.slice ai ([]:List It).length ci) d2i d2i d2i d2i d2i) ((HY9.o.f.call HWD.o).putR hB8 hX8).x rfl rfl tC HO9.o ?_;intro w9 hB9 hX9;refine hK.o _ _ (pV hY hB9 aE aE) ?_;clear hY hK K;intro hY;(try simp only[aK])
  refine cT ?_;refine fO (bF ?_);have HF9:=aB (((HY9.o.f.call HWD.o).putR hB8 hX8).putX hB9 hX9);have HP9:=aB ((((HY9.o.p.bl HWD.o).but hB8 (fun i hi=>by omega)).but hB9 (fun i hi=>by omega)).of (r:=fun b=>False\/W.heap.size<=b) fun b _ hb=> .inr aE);clear hB8 hX8 hB9 hX9;go_wp2;exact bodyPost_ret (HF9.o.results rfl rfl rfl rfl underlying36 rfl tC) rfl ⟨HF9.o.bl,_,_,_,_,_,_,_,_,c,HKK9.o,rfl,HP9.o,.inr ⟨by first |exact HC9.o|exact .inr (.inl rfl),HE9.o⟩⟩
 have HR6:=aB (show R=(match bH ts k4 [d5p] with
   |none=> .bad 261
   |some k3=>(d3b ts k3).bind fun k4 frm=>e6l ts (quA d items frm) k4:d2u Qu) from by rw[HR1.o,hr];rfl)
 clear hr HC HR1;go_wp2_with fail;refine(dH H.o ((Y6).o.f.bl.alloc _) hfew hk4 1 [d5p] rfl aa (aV _ _ aa)).mono ?_;rintro e w9 ⟨rfl,hb9⟩;rw[d2x];have Y9:=aB ((Y6).o.call (((Bl.refl _).alloc _).call hb9));clear hb9 s0 s1;clear Y6;cases ht:bH ts k4 [d5p] with
 |none=>
  as_aux_lemma=>
  have HE9:=aB (show R= .bad 261 from by rw[HR6.o,ht]);have HC9:Hid ((261:Int)=260\/(261:Int)=261\/(261:Int)=270):= .inr (.inl rfl);have HKK9:=aB hk4;clear ht HR6;go_wp2_with (refine bA rfl rfl rfl rfl (sC g ts.length cap k4) (Y9).o.f.s rfl rfl d2j rfl ?_)
  intro w7 hB7 hX7;have Y7:=aB ((Y9).o.putS hB7 hX7);have HB7:=aB hB7;obtain⟨s0,s1,-,-,-⟩:=aU hX7;clear hB7 hX7;clear Y9 s0 s1;go_wp2_with fail;have HY9:=Y7;have HO9:=aB HY9.o.p.one;refine wp_region_noPanic (bM (fun B=>B.heap[W.heap.size]?=some (.cells (sC g ts.length cap k4).toArray 54 (0,0))/\B.heap[W.heap.size+3]?=some (.cells (quC (quA d items ⟨[],[]⟩) (.slice ai items.length ci) d2i d2i d2i d2i d2i).toArray 36 (0,0))) ((.take 0 (.take 1 (.one 2 (.one 3 (.take 4 .done)))))) ab ab ab (fun _ _ _ _ _ h=>h) (eB ⟨HY9.o.f.s,HY9.o.m⟩ ((Bl.refl _).drew)) ?_);intro wd HWD hY;refine aI rfl ae (fun w hSw=>eD rfl rfl hSw.1 underlying54 rfl d2j) ?_;(try simp only[aK,aA,aD,aF])
  refine aI rfl ae (fun w hSw=>eD rfl rfl hSw.2 underlying36 rfl tC) ?_;(try simp only[aK,aA,aD,aF])
  refine aL rfl (fun K hK=>?_);rw[if_pos ae];refine bC rfl rfl rfl (sC g ts.length cap k4) (HY9.o.f.call HWD.o).r rfl rfl d2j rfl ?_;intro w8 hB8 hX8;refine hK.o _ _ (pV hY hB8 aE aE) ?_;clear hY hK K;intro hY;(try simp only[aK])
  refine aL rfl (fun K hK=>?_);rw[if_pos ae];refine bC rfl rfl rfl (quC (quA d items ⟨[],[]⟩) (.slice ai items.length ci) d2i d2i d2i d2i d2i) ((HY9.o.f.call HWD.o).putR hB8 hX8).x rfl rfl tC HO9.o ?_;intro w9 hB9 hX9;refine hK.o _ _ (pV hY hB9 aE aE) ?_;clear hY hK K;intro hY;(try simp only[aK])
  refine cT ?_;refine fO (bF ?_);have HF9:=aB (((HY9.o.f.call HWD.o).putR hB8 hX8).putX hB9 hX9);have HP9:=aB ((((HY9.o.p.bl HWD.o).but hB8 (fun i hi=>by omega)).but hB9 (fun i hi=>by omega)).of (r:=fun b=>False\/W.heap.size<=b) fun b _ hb=> .inr aE);clear hB8 hX8 hB9 hX9;go_wp2;exact bodyPost_ret (HF9.o.results rfl rfl rfl rfl underlying36 rfl tC) rfl ⟨HF9.o.bl,_,_,_,_,_,_,_,_,261,HKK9.o,rfl,HP9.o,.inr ⟨by first |exact HC9.o|exact .inr (.inl rfl),HE9.o⟩⟩
 |some k5=>
 have hk5:=b8z hk4 ht;have HR7:=aB (show R=(d3b ts k5).bind fun k4 frm=>e6l ts (quA d items frm) k4 from by rw[HR6.o,ht]);clear ht HR6;go_wp2_with (refine bA rfl rfl rfl rfl (sC g ts.length cap k5) (Y9).o.f.s rfl rfl d2j rfl ?_)
 intro w7 hB7 hX7;have Y7:=aB ((Y9).o.putS hB7 hX7);have HB7:=aB hB7;obtain⟨s0,s1,-,-,-⟩:=aU hX7;clear hB7 hX7;clear Y9 HB7;go_wp2_with fail;refine(d4y (H.o.bl Y7.o.f.bl) hfew hk5).mono ?_;rintro e w8 ⟨hb8,k8,⟨ft,fal⟩,c,hk8,rfl,hcase⟩;have Y8:=aB (Y7.o.call hb8);have HC:=aB hcase;clear hb8 hcase s0 s1 Y7;go_wp2_with (refine bA rfl rfl rfl rfl (sC g ts.length cap k8) (Y8).o.f.s rfl rfl d2j rfl ?_)
 intro w10 hB10 hX10;have Y10:=aB ((Y8).o.putS hB10 hX10);have HB10:=aB hB10;obtain⟨s0,s1,-,-,-⟩:=aU hX10;clear hB10 hX10;go_wp2_with (refine bA rfl rfl rfl rfl (quC (quA d items ⟨ft,fal⟩) (.slice ai items.length ci) d2i d2i d2i d2i d2i) (Y10).o.m rfl rfl d7e rfl ?_)
 intro w11 hB11 hX11;have Y11:=aB ((Y10).o.putQ (q':=(quA d items ⟨ft,fal⟩)) hB11 hX11 ⟨Y10.o.p.items,.nil _ _ _ _,.nil _ _ _ _,.nil _ _ _ _,.nil _ _ _ _,.nil _ _ _ _⟩);have S11:=aB ((hB11.same W.heap.size aE).trans (Y10).o.f.s);clear hB11 hX11 s0 s1;obtain⟨s0,s1,-,-,-⟩:=aU S11.o;clear S11;clear Y8 Y10 HB10;obtain⟨RJ,HRJ⟩:∃RJ,Hid (RJ=d4u ts ts.length k8 []):=⟨_,rfl⟩
 have HS11:Hid ((c=0/\e2p ts RJ k8 []/\R=RJ.bind fun k' j=>e4d ts ⟨d,items,⟨ft,fal⟩,j,zeroE,[],zeroE,[],-1⟩ k')\/((c=260\/c=261\/c=270)/\R= .bad c)):=by
  rcases HC.o with⟨h1,h2⟩|⟨h1,h2⟩
  ·exact .inl ⟨h1,by rw[HRJ.o];exact e2p.start ts _,by rw[HR7.o,h2,HRJ.o];rfl⟩
  ·exact .inr ⟨h1,by rw[HR7.o,h2];rfl⟩
 clear HC HR7 HRJ
 go_upto_block 0 with fail
 go_cut [7] from 58 to 99 (fun no wc=>∃(kj:Nat) (joins:List Jo) (si sj:Value) (c:Int),no= .int .i64 c/\kj<ts.length/\Hid (YQ W wc g ts.length cap kj ⟨d,items,⟨ft,fal⟩,joins,zeroE,[],zeroE,[],-1⟩ si sj d2i d2i d2i d2i)/\Hid ((c=0/\R=e4d ts ⟨d,items,⟨ft,fal⟩,joins,zeroE,[],zeroE,[],-1⟩ kj)\/((c=260\/c=261\/c=270)/\R= .bad c)))
 case first=>
  as_aux_lemma=>
  have HJ0:Hid (YJ W w11 g ts.length cap w11.heap.size k8 d items ⟨ft,fal⟩ (.slice ai items.length ci) d2i []):=⟨Y11.o.f,Y11.o.m,Y11.o.p.items.of fun b hl hb=>⟨hb,hl⟩,d2l _ _ _ _,fun q hq=>(by cases hq),aH _,by have:=Y11.o.size;omega⟩
  generalize hN:w11.heap.size=N at *;clear Y11 hN s0 s1;go_wp2_with fail;go_loopw [7] (fun no wr=>∃(v0:Value) (kk:Nat) (acc:List (Jo×Value)) (c:Int),no= .int .i64 c/\(c=0->acc.length<=kk)/\kk<ts.length/\Hid (YJ W wr g ts.length cap N kk d items ⟨ft,fal⟩ (.slice ai items.length ci) v0 acc)/\
   Hid ((c=0/\e2p ts RJ kk (acc.map (·.1))/\R=RJ.bind fun k' j=>e4d ts ⟨d,items,⟨ft,fal⟩,j,zeroE,[],zeroE,[],-1⟩ k')\/((c=260\/c=261\/c=270)/\R= .bad c))) (fun no wr=>if intOf no=0 then ts.length+1-tH wr W.heap.size else 0)
  case atStart=>exact⟨_,k8,[],c,rfl,fun _=>dL _,hk8,HJ0.o,HS11.o⟩
  case round=>
   clear HJ0 HS11;obtain⟨v0,kk,acc,c,rfl,hak,hkk,HJ,HS⟩:=hrel;have hzr:=HJ.o.size;obtain⟨s0,s1,-,-,-⟩:=aU HJ.o.f.s;rcases HS.o with⟨rfl,hst,hR⟩|⟨hc,hR⟩
   rotate_left
   ·have HE:=aB hR;have hc0:¬c=0:=aE;have hcb:(c==0)=false:=ap;have hcb':(c != 0)=true:=ap;clear hR HS s0 s1;go_wp2
    go_meet
    case rel=>exact⟨kk,_,_,v0,c,rfl,hkk,HJ.o.rest,.inr ⟨hc,HE.o⟩⟩
   replace hak:=hak rfl
   have HST:=aB (hst.step hkk);have HRJ:=aB hR;clear hst hR HS;go_wp2_with fail;refine(dH H.o (HJ.o.f.bl.alloc _) hfew hkk 1 [d5v] rfl aa (aV _ _ aa)).mono ?_;rintro e w9 ⟨rfl,hb9⟩;rw[d2x];have HJ9:=aB (HJ.o.call (((Bl.refl _).alloc _).call hb9));clear hb9 s0 s1;cases ht:bH ts kk [d5v] with
   |none=>
    have HE:=aB (show R=e4d ts ⟨d,items,⟨ft,fal⟩,acc.map (·.1),zeroE,[],zeroE,[],-1⟩ kk from by rw[HRJ.o,HST.o.1 ht];rfl);have HJ10:=aB (HJ9.o.call ((Bl.refl w9).alloc (.cells (sC g ts.length cap kk).toArray 54)));clear ht HST;go_wp2
    go_meet
    case rel=>exact⟨kk,_,_,v0,0,rfl,hkk,HJ10.o.rest,.inl ⟨rfl,HE.o⟩⟩
   |some k1=>
   have hk1:=kS HTK.o hkk ht;have HG:=aB (HST.o.2 k1 ht hk1.1);have HJ11:=aB (HJ9.o.call (((Bl.refl w9).alloc (.cells (sC g ts.length cap k1).toArray 54)).alloc (.cells (Form.cells fJo ⟨⟨[],[]⟩,zeroE⟩ (.slice none 0 0)).toArray 78)));have HX11:=aB (aV (w9.alloc (.cells (sC g ts.length cap k1).toArray 54)) (.cells (jCs [] [] 0 0 0 [] [] [] 0 (.slice none 0 0)).toArray 78) (k:=w9.heap.size+1) aa);have HQ9:=aB (show ∀q∈acc,bG (fun b=>(N<=b/\some b≠v0.ownBlock)/\b<w9.heap.size) w9 q.2 (Form.ex fJo q.1).args from fun q hq=>(HJ9.o.r q hq).of fun b hl hb=>⟨hb,hl⟩);have HZ9:=aB HJ9.o.z;have hlow:=aB HJ9.o.o.lt;obtain⟨s0,s1,-,-,-⟩:=aU ((aW (w9.alloc (.cells (sC g ts.length cap k1).toArray 54)) (.cells (jCs [] [] 0 0 0 [] [] [] 0 (.slice none 0 0)).toArray 78) aa).trans (aN w9 _));clear ht HST HJ9;go_wp2_with fail;refine(d4y (H.o.bl HJ11.o.f.bl) hfew hk1.2).mono ?_;rintro e w12 ⟨hb12,k12,⟨jt,jal⟩,c,hk12,rfl,hcase⟩;have HJ12:=aB (HJ11.o.call hb12);have HX12:=aB ((hb12.block _ (lt_of_heap HX11.o)).trans HX11.o);have HQ12:=aB (show ∀q∈acc,bG (fun b=>(N<=b/\some b≠v0.ownBlock)/\b<w9.heap.size) w12 q.2 (Form.ex fJo q.1).args from fun q hq=>((HQ9.o q hq).bl (((Bl.refl w9).alloc _).alloc _)).bl hb12);have HC:=aB hcase;have hne:some (w9.heap.size+1)≠v0.ownBlock:=fun e=>(by have:=(hlow.o _ e.symm).2;omega);have HNE:=aB hne;clear hb12 hcase s0 s1 hne HJ11 HX11 HQ9;go_wp2_with (refine bA rfl rfl rfl rfl (sC g ts.length cap k12) HJ12.o.f.s rfl rfl d2j rfl ?_)
   intro w13 hB13 hX13;have HJ13:=aB (HJ12.o.putS hB13 hX13);have HX13:=aB ((hB13.same (w9.heap.size+1) (by have:=HZ9.o;have:=HJ12.o.y;omega)).trans HX12.o);have HQ13:=aB (show ∀q∈acc,bG (fun b=>(N<=b/\some b≠v0.ownBlock)/\b<w9.heap.size) w13 q.2 (Form.ex fJo q.1).args from fun q hq=>(HQ12.o q hq).but hB13 (fun i hi=>by have:=HJ12.o.y;omega));clear hB13 hX13;go_wp2_with (refine bA rfl rfl rfl rfl (jCs jt jal 0 0 0 [] [] [] 0 (.slice none 0 0)) HX13.o rfl rfl d7e rfl ?_)
   intro w14 hB14 hX14;have HQ14:=aB (show ∀q∈acc,bG (fun b=>(N<=b/\some b≠v0.ownBlock)/\b<w9.heap.size) w14 q.2 (Form.ex fJo q.1).args from fun q hq=>(HQ13.o q hq).but hB14 (fun i hi=>by omega));have HJ14:=aB (HJ13.o.round hB14 (by have:=HZ9.o;omega) HNE.o fun q hq=>(HQ14.o q hq).of fun b _ hb=>hb.1);have HX14:=aB hX14;have HZ14:=aB (lt_of_heap hX14);obtain⟨s0,s1,-,-,-⟩:=aU HJ14.o.f.s;clear hB14 hX14 HJ12 HJ13 HX12 HX13 HQ12 HQ13;rcases HC.o with⟨rfl,hs⟩|⟨hc,hs⟩
   rotate_left
   ·have HE:=aB (show R= .bad c from by rw[HRJ.o,HG.o.1 c (by unfold d5h;rw[hs];rfl)];rfl);have hc0:¬c=0:=aE;have hcb:(c==0)=false:=ap;have hcb':(c != 0)=true:=ap;clear hs HC s0 s1;go_wp2
    go_meet
    case rel=>exact⟨k12,_,_,v0,c,rfl,hk12,HJ14.o.rest,.inr ⟨hc,HE.o⟩⟩
   have HSR:=aB hs;clear hs HC;go_wp2_with fail;refine(dH H.o (HJ14.o.f.bl.alloc _) hfew hk12 1 [wOn] rfl aa (aV _ _ aa)).mono ?_;rintro e w15 ⟨rfl,hb15⟩;rw[d2x];have HB15:=aB (((Bl.refl w14).alloc _).call hb15);have HJ15:=aB (HJ14.o.call HB15.o);have HX15:=aB ((HB15.o.block _ HZ14.o).trans HX14.o);have HQ15:=aB (show ∀q∈acc,bG (fun b=>(N<=b/\some b≠v0.ownBlock)/\b<w9.heap.size) w15 q.2 (Form.ex fJo q.1).args from fun q hq=>(HQ14.o q hq).bl HB15.o);clear hb15 s0 s1 HJ14 HX14 HQ14;cases ht:bH ts k12 [wOn] with
   |none=>
    as_aux_lemma=>
    have HE9:=aB (show R= .bad 261 from by rw[HRJ.o,HG.o.1 261 (by unfold d5h;rw[HSR.o];simp only[d2u.bind];rw[ht])];rfl);have HKK9:=aB hk12;have HC9:Hid ((261:Int)=260\/(261:Int)=261\/(261:Int)=270):= .inr (.inl rfl);have Y9:=aB HJ15.o.rest;clear ht HG HRJ HSR;go_wp2_with (refine bA rfl rfl rfl rfl (sC g ts.length cap k12) (Y9).o.f.s rfl rfl d2j rfl ?_)
    intro w7 hB7 hX7;have Y7:=aB ((Y9).o.putS hB7 hX7);have HB7:=aB hB7;obtain⟨s0,s1,-,-,-⟩:=aU hX7;clear hB7 hX7;clear Y9 s0 s1 HJ15;go_wp2_with fail;have HY9:=Y7;have HO9:=aB HY9.o.p.one;refine wp_region_noPanic (bM (fun B=>B.heap[W.heap.size]?=some (.cells (sC g ts.length cap k12).toArray 54 (0,0))/\B.heap[W.heap.size+3]?=some (.cells (quC ⟨d,items,⟨ft,fal⟩,acc.map (·.1),zeroE,[],zeroE,[],-1⟩ (.slice ai items.length ci) v0 d2i d2i d2i d2i).toArray 36 (0,0))) ((.take 0 (.take 1 (.one 2 (.one 3 (.take 4 .done)))))) ab ab ab (fun _ _ _ _ _ h=>h) (eB ⟨HY9.o.f.s,HY9.o.m⟩ ((Bl.refl _).drew)) ?_);intro wd HWD hY;refine aI rfl ae (fun w hSw=>eD rfl rfl hSw.1 underlying54 rfl d2j) ?_;(try simp only[aK,aA,aD,aF])
    refine aI rfl ae (fun w hSw=>eD rfl rfl hSw.2 underlying36 rfl tC) ?_;(try simp only[aK,aA,aD,aF])
    refine aL rfl (fun K hK=>?_);rw[if_pos ae];refine bC rfl rfl rfl (sC g ts.length cap k12) (HY9.o.f.call HWD.o).r rfl rfl d2j rfl ?_;intro w8 hB8 hX8;refine hK.o _ _ (pV hY hB8 aE aE) ?_;clear hY hK K;intro hY;(try simp only[aK])
    refine aL rfl (fun K hK=>?_);rw[if_pos ae];refine bC rfl rfl rfl (quC ⟨d,items,⟨ft,fal⟩,acc.map (·.1),zeroE,[],zeroE,[],-1⟩ (.slice ai items.length ci) v0 d2i d2i d2i d2i) ((HY9.o.f.call HWD.o).putR hB8 hX8).x rfl rfl tC HO9.o ?_;intro w9 hB9 hX9;refine hK.o _ _ (pV hY hB9 aE aE) ?_;clear hY hK K;intro hY;(try simp only[aK])
    refine cT ?_;refine fO (bF ?_);have HF9:=aB (((HY9.o.f.call HWD.o).putR hB8 hX8).putX hB9 hX9);have HP9:=aB ((((HY9.o.p.bl HWD.o).but hB8 (fun i hi=>by omega)).but hB9 (fun i hi=>by omega)).of (r:=fun b=>False\/W.heap.size<=b) fun b _ hb=> .inr aE);clear hB8 hX8 hB9 hX9;go_wp2;exact bodyPost_ret (HF9.o.results rfl rfl rfl rfl underlying36 rfl tC) rfl ⟨HF9.o.bl,_,_,_,_,_,_,_,_,261,HKK9.o,rfl,HP9.o,.inr ⟨by first |exact HC9.o|exact .inr (.inl rfl),HE9.o⟩⟩
   |some k16=>
   have hk16:=kS HTK.o hk12 ht;have HT16:=aB ht;clear ht;go_wp2_with (refine bA rfl rfl rfl rfl (sC g ts.length cap k16) HJ15.o.f.s rfl rfl d2j rfl ?_)
   intro w16 hB16 hX16;have HJ16:=aB (HJ15.o.putS hB16 hX16);have HX16:=aB ((hB16.same (w9.heap.size+1) (by have:=HZ9.o;have:=HJ15.o.y;omega)).trans HX15.o);have HQ16:=aB (show ∀q∈acc,bG (fun b=>(N<=b/\some b≠v0.ownBlock)/\b<w9.heap.size) w16 q.2 (Form.ex fJo q.1).args from fun q hq=>(HQ15.o q hq).but hB16 (fun i hi=>by have:=HJ15.o.y;omega));obtain⟨s0,s1,-,-,-⟩:=aU HJ16.o.f.s;clear hB16 hX16 HJ15 HX15 HQ15;go_wp2_with fail;refine(d8k (H.o.bl HJ16.o.f.bl) HTK.o hfew hk16.2).mono ?_;rintro e w17 ⟨hb17,k17,c,xk,x1,x2,x3,xt,xn,xo,xa,asv,csv,hk17,rfl,hA,hcase⟩;have HJ17:=aB (HJ16.o.call hb17);have HX17:=aB ((hb17.block _ (lt_of_heap HX16.o)).trans HX16.o);have HQ17:=aB (show ∀q∈acc,bG (fun b=>(N<=b/\some b≠v0.ownBlock)/\b<w9.heap.size) w17 q.2 (Form.ex fJo q.1).args from fun q hq=>(HQ16.o q hq).bl hb17);have hlow16:=aB HJ16.o.o.lt;have hz16:=lt_of_heap HX16.o;have HA17:=aB (show bG (fun b=>(N<=b/\some b≠v0.ownBlock)/\w9.heap.size+1<b) w17 (.slice asv xa.length csv) xa from hA.of fun b _ (hb:_<=b)=>⟨⟨by have:=HJ16.o.z;omega,fun e=>by have:=(hlow16.o b e.symm).2;omega⟩,by omega⟩);have HC:=aB hcase;clear hb17 hcase hA s0 s1 hz16 HJ16 HX16 HQ16;go_wp2_with (refine bA rfl rfl rfl rfl (sC g ts.length cap k17) HJ17.o.f.s rfl rfl d2j rfl ?_)
   intro w18 hB18 hX18;have HJ18:=aB (HJ17.o.putS hB18 hX18);have HX18:=aB ((hB18.same (w9.heap.size+1) (by have:=HZ9.o;have:=HJ17.o.y;omega)).trans HX17.o);have HQ18:=aB (show ∀q∈acc,bG (fun b=>(N<=b/\some b≠v0.ownBlock)/\b<w9.heap.size) w18 q.2 (Form.ex fJo q.1).args from fun q hq=>(HQ17.o q hq).but hB18 (fun i hi=>by have:=HJ17.o.y;omega));have HA18:=aB (HA17.o.but hB18 (fun i hi=>by have:=HJ17.o.y;omega));clear hB18 hX18 HX17 HQ17 HA17;go_wp2_with (refine bA rfl rfl rfl rfl (jCs jt jal xk x1 x2 x3 xt xn xo (.slice asv xa.length csv)) HX18.o rfl rfl d4b rfl ?_)
   intro w19 hB19 hX19;have HQ19:=aB (show ∀q∈acc,bG (fun b=>N<=b/\some b≠v0.ownBlock) w19 q.2 (Form.ex fJo q.1).args from fun q hq=>((HQ18.o q hq).but hB19 (fun i hi=>by omega)).of fun b _ hb=>hb.1);have HJ19:=aB (HJ18.o.round hB19 (by have:=HZ9.o;omega) HNE.o HQ19.o);have HX19:=aB hX19;have HA19:=aB (show bG (fun b=>N<=b/\some b≠v0.ownBlock) w19 (.slice asv xa.length csv) xa from(HA18.o.but hB19 (fun i hi=>by omega)).of fun b _ hb=>hb.1);have c4:w19.cell? ⟨W.heap.size+1+1+1,4,none⟩=some v0:=(aG HJ19.o.m 4).trans rfl;have hzN:=HJ19.o.z;have hlow19:=aB HJ19.o.o.lt;clear hB19 hX19 HX18 HQ18 HA18 HJ18;go_wp2_with (first |(refine wpList_load_row rfl 78 (.tmp 10) rfl (w9.heap.size+1) rfl 78 _ (0,0) _ HX19.o underlying78 rfl e3s ?_)|(refine d8l rfl (t:=25) (y:= .tmp 96) rfl underlying25 rfl jo1 rfl ?_)|(at_builtin;refine d4o rfl (.tmp 95) (.tmp 97) rfl N v0 acc rfl (gY ((Bl.refl _).alloc _) HJ19.o.o) w19.heap.size ⟨⟨jt,jal⟩,.mk xk (x1,x2,x3) xt xn xo xa⟩ asv xa.length csv rfl (aN w19 _) aE an ?_))
   intro v' w20 hown20 hg20 hat;have HJ20:=aB (HJ19.o.call ((Bl.refl _).alloc (.cells (jCs jt jal xk x1 x2 x3 xt xn xo (.slice asv xa.length csv)).toArray 78)));have HF20:=aB (HJ20.o.f.own hg20 (fun j e=>by have:=(hlow19.o j e).1;have:=HJ19.o.y;omega));have HM20:=aB ((hg20.block (W.heap.size+3) HJ20.o.size (fun e=>by have:=(hlow19.o _ e.symm).1;have:=HJ19.o.y;omega)).trans HJ20.o.m);have HI20:=aB (HJ20.o.i.keep hg20.4 (fun _ h=>h) fun b hp hl=>hg20.block b hl (fun e=>by have:=(hlow19.o _ e.symm).1;omega));have HQ20:=aB (show ∀q∈acc++[((⟨⟨jt,jal⟩,.mk xk (x1,x2,x3) xt xn xo xa⟩:Jo),.slice asv xa.length csv)],bG (fun b=>N<=b/\some b≠v'.ownBlock) w20 q.2 (Form.ex fJo q.1).args from fun q hq=>by rcases iX.1 hq with hq|hq;exact((HQ19.o q hq).bl ((Bl.refl _).alloc _)).own hg20 bd;obtain rfl:=gQ.1 hq;exact(HA19.o.bl ((Bl.refl _).alloc _)).own hg20 bd);have hz20:N<=w20.heap.size:=(by have:=hg20.4;rw[aR] at this;omega);obtain⟨gn,cn,rfl⟩:=nG hown20;have HO20:=aB hown20;have hy20:=HJ19.o.y;clear hown20 hg20 hat c4;go_wp2_with (refine bA rfl rfl rfl rfl (quC (quA d items ⟨ft,fal⟩) (.slice ai items.length ci) (.slice (some ⟨gn,0,none⟩) (acc.length+1) cn) d2i d2i d2i d2i) HM20.o rfl rfl e0q rfl ?_)
   intro w21 hB21 hX21;have HJ21:Hid (YJ W w21 g ts.length cap N k17 d items ⟨ft,fal⟩ (.slice ai items.length ci) (.slice (some ⟨gn,0,none⟩) (acc.length+1) cn) (acc++[((⟨⟨jt,jal⟩,.mk xk (x1,x2,x3) xt xn xo xa⟩:Jo),.slice asv xa.length csv)])):=
    ⟨HF20.o.other hB21 aE,hX21,HI20.o.but hB21 (fun i hi=>by omega),by rw[bD];exact d3q HO20.o hB21 aE,fun q hq=>(HQ20.o q hq).but hB21 (fun i hi=>by omega),by rw[hB21.size];exact hz20,hy20⟩
   have HSN:Hid ((c=0/\e2p ts RJ k17 (acc.map (·.1)++[⟨⟨jt,jal⟩,.mk xk (x1,x2,x3) xt xn xo xa⟩])/\kk<k17)\/((c=260\/c=261\/c=270)/\R= .bad c)):=by
    rcases HC.o with⟨h1,h2⟩|⟨h1,h2⟩
    ·have hj:d5h ts k1= .good k17 ⟨⟨jt,jal⟩,.mk xk (x1,x2,x3) xt xn xo xa⟩:=by unfold d5h;rw[HSR.o];simp only[d2u.bind];rw[HT16.o];simp only;rw[h2]
     have hp:=d6k HTK.o hj;exact .inl ⟨h1,HG.o.2 k17 _ hj hp.1,by omega⟩
    ·exact .inr ⟨h1,by rw[HRJ.o,HG.o.1 c (by unfold d5h;rw[HSR.o];simp only[d2u.bind];rw[HT16.o];simp only;rw[h2])];rfl⟩
   clear hB21 hX21 HC;go_wp2;go_roundw
   case rel=>exact⟨.slice (some ⟨gn,0,none⟩) (acc.length+1) cn,k17,acc++[((⟨⟨jt,jal⟩,.mk xk (x1,x2,x3) xt xn xo xa⟩:Jo),.slice asv xa.length csv)],c,rfl,(fun hc=>by rw[bD];rcases HSN.o with h|⟨h,-⟩<;>first |(exact absurd hc aE)|(simp;omega)),hk17,HJ21,by rw[kW];exact HSN.o.imp (fun h=>⟨h.1,h.2.1,HRJ.o⟩) id⟩
   case measure=>
    have n1:=yN HJ.o.f.s;have n2:=yN HJ21.o.f.s;show(if c=0 then ts.length+1-tH w21 W.heap.size else 0)<(if(0:Int)=0 then ts.length+1-tH wr W.heap.size else 0);rw[n1,n2,if_pos rfl];rcases HSN.o with h|⟨h,-⟩
    ·rw[if_pos h.1];omega
    ·rw[if_neg aE];omega
 case rest=>
  as_aux_lemma=>
  clear HS11 s0 s1 Y11;obtain⟨kj,joins,si,sj,c,rfl,hkj,SJ,HS⟩:=hcut;rcases HS.o with⟨rfl,hR⟩|⟨hc,hR⟩
  rotate_left
  ·have HE9:=aB hR;have HC9:=aB hc;have HKK9:=aB hkj;have hc0:¬c=0:=aE;have hcb:(c==0)=false:=ap;have hcb':(c != 0)=true:=ap;clear hR hc HS;go_wp2_with fail;have HY9:=SJ;have HO9:=aB HY9.o.p.one;refine wp_region_noPanic (bM (fun B=>B.heap[W.heap.size]?=some (.cells (sC g ts.length cap kj).toArray 54 (0,0))/\B.heap[W.heap.size+3]?=some (.cells (quC ⟨d,items,⟨ft,fal⟩,joins,zeroE,[],zeroE,[],-1⟩ si sj d2i d2i d2i d2i).toArray 36 (0,0))) ((.take 0 (.take 1 (.take 2 (.one 3 (.one 4 (.take 5 .done))))))) ab ab ab (fun _ _ _ _ _ h=>h) (eB ⟨HY9.o.f.s,HY9.o.m⟩ ((Bl.refl _).drew)) ?_);intro wd HWD hY;refine aI rfl ae (fun w hSw=>eD rfl rfl hSw.1 underlying54 rfl d2j) ?_;(try simp only[aK,aA,aD,aF])
   refine aI rfl ae (fun w hSw=>eD rfl rfl hSw.2 underlying36 rfl tC) ?_;(try simp only[aK,aA,aD,aF])
   refine cT ?_;refine aL rfl (fun K hK=>?_);rw[if_pos ae];refine bC rfl rfl rfl (sC g ts.length cap kj) (HY9.o.f.call HWD.o).r rfl rfl d2j rfl ?_;intro w8 hB8 hX8;refine hK.o _ _ (pV hY hB8 aE aE) ?_;clear hY hK K;intro hY;(try simp only[aK])
   refine aL rfl (fun K hK=>?_);rw[if_pos ae];refine bC rfl rfl rfl (quC ⟨d,items,⟨ft,fal⟩,joins,zeroE,[],zeroE,[],-1⟩ si sj d2i d2i d2i d2i) ((HY9.o.f.call HWD.o).putR hB8 hX8).x rfl rfl tC HO9.o ?_;intro w9 hB9 hX9;refine hK.o _ _ (pV hY hB9 aE aE) ?_;clear hY hK K;intro hY;(try simp only[aK])
   refine cT ?_;refine fO (bF ?_);have HF9:=aB (((HY9.o.f.call HWD.o).putR hB8 hX8).putX hB9 hX9);have HP9:=aB ((((HY9.o.p.bl HWD.o).but hB8 (fun i hi=>by omega)).but hB9 (fun i hi=>by omega)).of (r:=fun b=>False\/W.heap.size<=b) fun b _ hb=> .inr aE);clear hB8 hX8 hB9 hX9;go_wp2;exact bodyPost_ret (HF9.o.results rfl rfl rfl rfl underlying36 rfl tC) rfl ⟨HF9.o.bl,_,_,_,_,_,_,_,_,c,HKK9.o,rfl,HP9.o,.inr ⟨by first |exact HC9.o|exact .inr (.inl rfl),HE9.o⟩⟩
  have HRA:=aB hR;clear hR HS;obtain⟨s0,s1,-,-,-⟩:=aU SJ.o.f.s;have HZ:=aB SJ.o.size;go_wp2_with fail;refine(d5m (H.o.bl SJ.o.f.bl) HTK.o hfew hkj d6o).mono ?_;rintro e w20 ⟨hb20,k20,c,xk,x1,x2,x3,xt,xn,xo,xa,asv,csv,hk20,rfl,hA,hcase⟩;have Y20:=aB (SJ.o.call hb20);have HA20:=aB (show bG (fun b=>W.heap.size+4<=b) w20 (.slice asv xa.length csv) xa from hA.of fun b _ (hb:_<=b)=>by have:=HZ.o;omega);have HC:=aB hcase;clear hb20 hA hcase s0 s1 SJ;go_wp2_with (refine bA rfl rfl rfl rfl (sC g ts.length cap k20) (Y20).o.f.s rfl rfl d2j rfl ?_)
  intro w21 hB21 hX21;have Y21:=aB ((Y20).o.putS hB21 hX21);have HB21:=aB hB21;obtain⟨s0,s1,-,-,-⟩:=aU hX21;clear hB21 hX21;go_wp2_with (refine bA rfl rfl rfl rfl (quC ⟨d,items,⟨ft,fal⟩,joins,.mk xk (x1,x2,x3) xt xn xo xa,[],zeroE,[],-1⟩ si sj (.slice asv xa.length csv) d2i d2i d2i) (Y21).o.m rfl rfl d4b rfl ?_)
  intro w22 hB22 hX22;have Y22:=aB ((Y21).o.putQ (q':=⟨d,items,⟨ft,fal⟩,joins,.mk xk (x1,x2,x3) xt xn xo xa,[],zeroE,[],-1⟩) hB22 hX22 ⟨Y21.o.p.items,Y21.o.p.joins,HA20.o.but HB21.o (fun i hi=>by omega),.nil _ _ _ _,.nil _ _ _ _,.nil _ _ _ _⟩);have S22:=aB ((hB22.same W.heap.size aE).trans (Y21).o.f.s);clear hB22 hX22 s0 s1;obtain⟨s0,s1,-,-,-⟩:=aU S22.o;clear S22;clear Y20 Y21 HB21 HA20;rcases HC.o with⟨rfl,hr⟩|⟨hc,hr⟩
  rotate_left
  ·have HE9:=aB (show R= .bad c from by rw[HRA.o];unfold e4d;rw[hr];rfl);have HC9:=aB hc;have HKK9:=aB hk20;have hc0:¬c=0:=aE;have hcb:(c==0)=false:=ap;have hcb':(c != 0)=true:=ap;clear hr hc HC HRA s0 s1;go_wp2_with fail;have HY9:=Y22;have HO9:=aB HY9.o.p.one;refine wp_region_noPanic (bM (fun B=>B.heap[W.heap.size]?=some (.cells (sC g ts.length cap k20).toArray 54 (0,0))/\B.heap[W.heap.size+3]?=some (.cells (quC ⟨d,items,⟨ft,fal⟩,joins,.mk xk (x1,x2,x3) xt xn xo xa,[],zeroE,[],-1⟩ si sj (.slice asv xa.length csv) d2i d2i d2i).toArray 36 (0,0))) ((.take 0 (.take 1 (.take 2 (.one 3 (.one 4 (.take 5 .done))))))) ab ab ab (fun _ _ _ _ _ h=>h) (eB ⟨HY9.o.f.s,HY9.o.m⟩ ((Bl.refl _).drew)) ?_);intro wd HWD hY;refine aI rfl ae (fun w hSw=>eD rfl rfl hSw.1 underlying54 rfl d2j) ?_;(try simp only[aK,aA,aD,aF])
   refine aI rfl ae (fun w hSw=>eD rfl rfl hSw.2 underlying36 rfl tC) ?_;(try simp only[aK,aA,aD,aF])
   refine cT ?_;refine aL rfl (fun K hK=>?_);rw[if_pos ae];refine bC rfl rfl rfl (sC g ts.length cap k20) (HY9.o.f.call HWD.o).r rfl rfl d2j rfl ?_;intro w8 hB8 hX8;refine hK.o _ _ (pV hY hB8 aE aE) ?_;clear hY hK K;intro hY;(try simp only[aK])
   refine aL rfl (fun K hK=>?_);rw[if_pos ae];refine bC rfl rfl rfl (quC ⟨d,items,⟨ft,fal⟩,joins,.mk xk (x1,x2,x3) xt xn xo xa,[],zeroE,[],-1⟩ si sj (.slice asv xa.length csv) d2i d2i d2i) ((HY9.o.f.call HWD.o).putR hB8 hX8).x rfl rfl tC HO9.o ?_;intro w9 hB9 hX9;refine hK.o _ _ (pV hY hB9 aE aE) ?_;clear hY hK K;intro hY;(try simp only[aK])
   refine cT ?_;refine fO (bF ?_);have HF9:=aB (((HY9.o.f.call HWD.o).putR hB8 hX8).putX hB9 hX9);have HP9:=aB ((((HY9.o.p.bl HWD.o).but hB8 (fun i hi=>by omega)).but hB9 (fun i hi=>by omega)).of (r:=fun b=>False\/W.heap.size<=b) fun b _ hb=> .inr aE);clear hB8 hX8 hB9 hX9;go_wp2;exact bodyPost_ret (HF9.o.results rfl rfl rfl rfl underlying36 rfl tC) rfl ⟨HF9.o.bl,_,_,_,_,_,_,_,_,c,HKK9.o,rfl,HP9.o,.inr ⟨by first |exact HC9.o|exact .inr (.inl rfl),HE9.o⟩⟩
  have HE:=aB (show R=e2o ts ⟨d,items,⟨ft,fal⟩,joins,.mk xk (x1,x2,x3) xt xn xo xa,[],zeroE,[],-1⟩ k20 from by rw[HRA.o];unfold e4d;rw[hr];rfl);clear hr HC HRA;go_wp2_with (refine wpList_load_row rfl 36 (.tmp 5) rfl (W.heap.size+3) rfl 36 _ (0,0) _ Y22.o.m underlying36 rfl tC ?_)
  refine(HBEH.o _ k20 ⟨d,items,⟨ft,fal⟩,joins,.mk xk (x1,x2,x3) xt xn xo xa,[],zeroE,[],-1⟩ si sj (.slice asv xa.length csv) (fun b=>W.heap.size+4<=b) (H.o.bl Y22.o.f.bl) hk20 rfl rfl rfl rfl Y22.o.p).mono ?_;rintro e w24 ⟨hb24,k24,q,si',sj',sw',sg',sh',so',c,hk24,rfl,hp24,hcase⟩;have HF24:=aB (Y22.o.f.call hb24);have HONE:=aB hp24.one;have hz22:=Y22.o.size;have HP24:=aB (hp24.of (r:=fun b=>W.heap.size+4<=b) fun b _ hb=>by rcases hb with hb|hb<;>omega);have HC:=aB hcase;clear hb24 hp24 hcase s0 s1 Y22;go_wp2_with (refine bA rfl rfl rfl rfl (sC g ts.length cap k24) HF24.o.r rfl rfl d2j rfl ?_)
  intro w25 hB25 hX25;have HF25:=aB (HF24.o.putR hB25 hX25);have HP25:=aB (HP24.o.but hB25 (fun i hi=>by omega));clear hB25 hX25 HF24 HP24;go_wp2_with (refine bA rfl rfl rfl rfl (quC q si' sj' sw' sg' sh' so') HF25.o.x rfl rfl tC HONE.o ?_)
  intro w26 hB26 hX26;have HF26:=aB (HF25.o.putX hB26 hX26);have HP26:=aB ((HP25.o.but hB26 (fun i hi=>by omega)).of (r:=fun b=>False\/W.heap.size<=b) fun b _ hb=> .inr aE);clear hB26 hX26 HF25 HP25;go_wp2;refine bodyPost_ret (HF26.o.results rfl rfl rfl rfl underlying36 rfl tC) rfl ?_;refine⟨HF26.o.bl,k24,q,si',sj',sw',sg',sh',so',c,hk24,?_,?_,?_⟩
  ·rfl
  ·exact HP26.o
  ·rw[HE.o];exact HC.o
end
section
structure YH(P:Nat->Prop)(W A:World)(g n cap k:Nat)(q:Qu)(si sj sw sg sh so:Value):Prop where
 bl:Bl W A
 s:A.heap[W.heap.size]?=some (.cells (sC g n cap k).toArray 54 (0,0))
 m:A.heap[W.heap.size+1]?=some (.cells (quC q si sj sw sg sh so).toArray 36 (0,0))
 r:A.heap[W.heap.size+2]?=some (.cells zSt.toArray 54 (0,0))
 x:A.heap[W.heap.size+3]?=some (.cells zQL.toArray 36 (0,0))
 p:d2t (fun b=>(P b/\b<W.heap.size)\/W.heap.size+4<=b) A q si sj sw sg sh so
section
variable {P:Nat->Prop} {W A B:World} {g n cap k k':Nat} {q q':Qu} {si sj sw sg sh so si' sj' sw' sg' sh' so':Value} {b:Nat}
theorem YH.size(h:YH P W A g n cap k q si sj sw sg sh so):W.heap.size+3<A.heap.size:=lt_of_heap h.x
theorem YH.call(h:YH P W A g n cap k q si sj sw sg sh so)(hb:Bl A B):YH P W B g n cap k q si sj sw sg sh so:=
 ⟨h.bl.call hb,(hb.block _ (lt_of_heap h.s)).trans h.s,(hb.block _ (lt_of_heap h.m)).trans h.m,(hb.block _ (lt_of_heap h.r)).trans h.r,(hb.block _ h.size).trans h.x,h.p.bl hb⟩
theorem YH.putS(h:YH P W A g n cap k q si sj sw sg sh so)(hB:But W.heap.size A B)(hx:B.heap[W.heap.size]?=some (.cells (sC g n cap k').toArray 54 (0,0))):YH P W B g n cap k' q si sj sw sg sh so:=
 ⟨h.bl.but hB (aH _),hx,(hB.same _ aE).trans h.m,(hB.same _ aE).trans h.r,(hB.same _ aE).trans h.x,h.p.but hB (fun i hi=>by omega)⟩
theorem YH.putQ(h:YH P W A g n cap k q si sj sw sg sh so)(hB:But (W.heap.size+1) A B)(hx:B.heap[W.heap.size+1]?=some (.cells (quC q' si' sj' sw' sg' sh' so').toArray 36 (0,0)))(hp:d2t (fun b=>(P b/\b<W.heap.size)\/W.heap.size+4<=b) A q' si' sj' sw' sg' sh' so'):YH P W B g n cap k q' si' sj' sw' sg' sh' so':=
 ⟨h.bl.but hB aE,(hB.same _ aE).trans h.s,hx,(hB.same _ aE).trans h.r,(hB.same _ aE).trans h.x,hp.but hB (fun i hi=>by omega)⟩
theorem YH.other(h:YH P W A g n cap k q si sj sw sg sh so)(hB:But b A B)(hb:W.heap.size+4<=b)(hp:d2t (fun b=>(P b/\b<W.heap.size)\/W.heap.size+4<=b) B q si sj sw sg sh so):YH P W B g n cap k q si sj sw sg sh so:=
 ⟨h.bl.but hB aE,(hB.same _ aE).trans h.s,(hB.same _ aE).trans h.m,(hB.same _ aE).trans h.r,(hB.same _ aE).trans h.x,hp⟩
theorem YH.results(hx:A.heap[W.heap.size+3]?=some (.cells (quC q si sj sw sg sh so).toArray 36 (0,0)))(hr':A.heap[W.heap.size+2]?=some (.cells (sC g n cap k).toArray 54 (0,0))){fn:Func}{p t:Tmp}{r:Tmp}{tmps:Array Value}(hr:fn.results= #[.cell p 54,.cell t 36,.tmp r])
  (hp:tmps.getD p undef= .pointer (some ⟨W.heap.size+2,0,none⟩)) (hq:tmps.getD t undef= .pointer (some ⟨W.heap.size+3,0,none⟩)):(results fn tmps).run prog A= .ok (.tuple #[RS g n cap k,QV q si sj sw sg sh so,tmps.getD r undef]) A:=by
 have hp':tmps[p]?.getD undef= .pointer (some ⟨W.heap.size+2,0,none⟩):=cR;have hq':tmps[t]?.getD undef= .pointer (some ⟨W.heap.size+3,0,none⟩):=(by simpa using hq);have h1:=run_loadVar_row (P:=prog) A _ 54 54 _ (0,0) _ hr' underlying54 rfl d2j;have h2:=run_loadVar_row (P:=prog) A _ 36 36 _ (0,0) _ hx underlying36 rfl tC;simp[Go.results,hr,hp',hq',asAddr,h1,h2];rfl
end
theorem d9o{ts:List Tok}:∀(f k:Nat) (acc:List Ex),(d3o ts (d9l ts false) f k (acc.map fun x=>⟨x,false⟩))=(d3o ts (d3j ts) f k acc).bind fun k' l=> .good k' (l.map fun x=>⟨x,false⟩)
 |0,_,_=>rfl
 |f+1,k,acc=>by
  simp only[d3o,d9l];rw[if_neg ak];cases d3j ts k with
  |bad c=>rfl
  |good k1 x=>
   simp only[d2u.bind];cases bH ts k1 [[44]] with
   |none=>simp
   |some k2=>
    simp only;have h:=d9o (ts:=ts) f k2 (acc++[x]);rw[kW] at h;exact h
theorem d9n{ts:List Tok}(k:Nat):e4f ts [d4q,wBy] false k=(d4v ts k).bind fun k' l=> .good k' (l.map fun x=>⟨x,false⟩):=by
 unfold e4f d4v;cases bH ts k [d4q,wBy] with
 |none=>rfl
 |some k1=>exact d9o _ _ []
theorem d8f{ts:List Tok}(k:Nat):e4f ts [d5n,wBy] true k=d5s ts k:=by
 unfold e4f d5s;cases bH ts k [d5n,wBy] with
 |none=>rfl
 |some k1=>rfl
theorem d9m{α:Type}{ts:List Tok}{one:Nat->d2u α}:∀{f k:Nat} {acc l:List α} {k':Nat},d3o ts one f k acc= .good k' l->l.length<=acc.length+f
 |0,k,acc,l,k',h=>by cases h
 |f+1,k,acc,l,k',h=>by
  simp only[d3o] at h;obtain⟨k1,x,h1,h2⟩:=d2u.bind_good h;split at h2
  ·have:=d9m h2;simp at this;omega
  ·injection h2 with _ h2;subst h2;simp<;>omega
theorem e2l{ts:List Tok}{k k1:Nat}{l:List Od}(h:e4f ts [d4q,wBy] false k= .good k1 l):d4v ts k= .good k1 (l.map Od.x)/\l.length<=ts.length:=by
 rw[d9n] at h;obtain⟨k2,g,h1,h2⟩:=d2u.bind_good h;injection h2 with h2 h3;subst h2 h3;refine⟨by rw[h1];simp[Function.comp_def],?_⟩;rw[mD];unfold d4v at h1;split at h1
 ·injection h1 with _ h1;subst h1;simp
 ·have:=d9m h1;simpa using this
theorem e3w{ts:List Tok}{k:Nat}{c:Int}(h:e4f ts [d4q,wBy] false k= .bad c):d4v ts k= .bad c:=by
 rw[d9n] at h;cases hg:d4v ts k with
 |bad e=>rw[hg] at h;injection h with h;rw[h]
 |good a b=>rw[hg] at h;cases h
theorem At8.bl'{W W':World}{b o:Nat}{x:Ex}{sv:Value}(h:At8 W b o x sv)(hb:Bl W W'):At8 W' b o x sv:=h.keep (hb.block b (by have:=bB _ _ h.1;simpa using this))
theorem At8.lt'{W:World}{b o:Nat}{x:Ex}{sv:Value}(h:At8 W b o x sv):b<W.heap.size:=by have:=bB _ _ h.1;simpa using this
abbrev qLs(d:Bool)(si:Value)(ft fa:List UInt8)(sj:Value)(xk x1 x2:Int)(x3 xt xn:List UInt8)(xo:Int)(sw:Value):List Value:=[.bool d,si,S ft,S fa,sj,.int .i64 xk,.int .i64 x1,.int .i64 x2,S x3,S xt,S xn,.int .i64 xo,sw,.slice none 0 0,.int .i64 0,.int .i64 0,.int .i64 0,S [],S [],S [],.int .i64 0,.slice none 0 0,.slice none 0 0,.int .i64 (-1)]
theorem d9c{P:Program}{o:Oper}{a:Act}{w:World}{K:Act->World->Prop}{Q:Exit->Act->World->Prop}{t e:TypeId}{y:Operand}(ho:o.op= .buildSlice t 1 #[(0,y)])(ht:P.underlying t=some (.slice e)){vs:List Value}(hy:(a.eval y).cells=vs.toArray)
  (hi:(P.info? e).map (fun i=>(i.zero.isSome,i.size))=some (true,vs.length)) (h0:decide (0<vs.length/\vs.length<=1000)=true) (h:K (a.put o.dst (.slice (some ⟨w.heap.size,0,none⟩) 1 1)) (w.alloc (.cells vs.toArray e))):Oper.wp P o a w K Q:=by
 obtain⟨i,hi,z,hz,hs⟩:∃i,P.info? e=some i/\∃z,i.zero=some z/\i.size=vs.length:=by
  cases hq:P.info? e with
  |none=>rw[hq] at hi;cases hi
  |some i=>
   rw[hq] at hi;simp only[lX,Option.some.injEq,Prod.mk.injEq] at hi;obtain⟨z,hz⟩:=Option.isSome_iff_exists.1 hi.1;exact⟨i,rfl,z,hz,hi.2⟩
 have h0':=of_decide_eq_true h0;unfold Oper.wp execOp;simp only[ho,Instr.buildSlice];have hne:vs≠[]:=fun e=>(by rw[e] at h0';exact absurd h0'.1 ak);simp[run_underlying ht,sizeOf,typeInfo,zeroValue,hi,hz,hs,newRow];rw[if_neg aE,if_neg hne,e0y hy rfl aa];simp[newObj];exact h
structure YG(W A:World)(g n cap N k:Nat)(q:Qu)(si sj sw v lv:Value)(l:List Od)(acc:List (Ex×Value)):Prop where
 bl:Bl W A
 s:A.heap[W.heap.size]?=some (.cells (sC g n cap k).toArray 54 (0,0))
 m:A.heap[W.heap.size+1]?=some (.cells (quC q si sj sw v d2i d2i).toArray 36 (0,0))
 r:A.heap[W.heap.size+2]?=some (.cells zSt.toArray 54 (0,0))
 x:A.heap[W.heap.size+3]?=some (.cells zQL.toArray 36 (0,0))
 lr:d2p fOd (fun b=>W.heap.size+4<=b/\b<N) A lv l
 o:A.ownsRow N 33 8 v acc.length (d4w fEx acc)
 e:∀y∈acc,bG (fun b=>W.heap.size+4<=b/\b<N) A y.2 y.1.args
 z:N<=A.heap.size
 y:W.heap.size+4<=N
section
variable {P:Nat->Prop} {W A B A1 A2:World} {g n cap N k:Nat} {q:Qu} {si sj sw v v' lv:Value} {l:List Od} {acc:List (Ex×Value)}
theorem YG.size(h:YG W A g n cap N k q si sj sw v lv l acc):W.heap.size+3<A.heap.size:=lt_of_heap h.x
theorem YG.round(h:YG W A g n cap N k q si sj sw v lv l acc)(hb:Bl A A1){y:Ex}{s:Value}(hr:bG (fun b=>W.heap.size+4<=b/\b<N) A s y.args)(ho:A2.ownsRow N 33 8 v' (acc.length+1) (d4w fEx (acc++[(y,s)])))(hg:A1.grownBy A2 v.ownBlock)(hB:But (W.heap.size+1) A2 B)
  (hx:B.heap[W.heap.size+1]?=some (.cells (quC q si sj sw v' d2i d2i).toArray 36 (0,0))):YG W B g n cap N k q si sj sw v' lv l (acc++[(y,s)]):=by
 have hlow:=h.o.lt;have hy:=h.y;have hs:=h.size;have hz:=h.z;have hbs:=hb.size;have hne:∀i,i<N->some i≠v.ownBlock:=fun i hi e=>(by have:=(hlow i e.symm).1;omega);have hk:∀i,i<N->i≠W.heap.size+1->B.heap[i]?=A.heap[i]?:=fun i hi h1=>(hB.same i h1).trans ((hg.block i aE (hne i hi)).trans (hb.block i aE));have hbA2:Bl W A2:=iL (h.bl.call hb) hg (h.bl.call hb).size (fun j e=>by have:=(hlow j e).1;omega);refine⟨hbA2.but hB aE,(hk _ aE aE).trans h.s,hx,(hk _ aE aE).trans h.r,(hk _ aE aE).trans h.x,?_,?_,?_,?_,hy⟩
 ·exact h.lr.keep (by rw[hB.size];exact jH hbs hg.4) (fun _ h=>h) fun b hp _=>hk b hp.2 aE
 ·rw[bD];exact d3q ho hB aE
 ·intro u hu;rcases iX.1 hu with hu|hu
  ·exact(h.e u hu).keep (fun _ h=>h) fun b hp _=>hk b hp.2 aE
  ·obtain rfl:=gQ.1 hu;exact hr.keep (fun _ h=>h) fun b hp _=>hk b hp.2 aE
 ·rw[hB.size];have:=hg.4;omega
theorem YG.rest{d:Bool}{items:List It}{frm:So}{joins:List Jo}{wher:Ex}(h:YG W A g n cap N k ⟨d,items,frm,joins,wher,[],zeroE,[],-1⟩ si sj sw v lv l acc)(hp:d2t (fun b=>P b/\b<W.heap.size) W ⟨d,items,frm,joins,wher,[],zeroE,[],-1⟩ si sj sw d2i d2i d2i):
  YH P W A g n cap k ⟨d,items,frm,joins,wher,acc.map (·.1),zeroE,[],-1⟩ si sj sw v d2i d2i:=
 have hy:=h.y
 ⟨h.bl,h.s,h.m,h.r,h.x,⟨(hp.items.bl h.bl).of fun b _ hb=> .inl hb,(hp.joins.bl h.bl).of fun b _ hb=> .inl hb,(hp.wher.bl h.bl).of fun b _ hb=> .inl hb,
  e3a (d4k (F:=fEx) h.o (fun b hb _=> .inr aE) (fun u hu=>(h.e u hu).of fun b _ hb=> .inr hb.1)),.nil _ _ _ _,.nil _ _ _ _⟩⟩
end
theorem e6a{l:List Od}{acc:List (Ex×Value)}{j:Nat}{s:Value}(h:acc.map (·.1)=(l.take j).map Od.x)(hj:j<l.length):(acc++[(l[j].x,s)]).map (·.1)=(l.take (j+1)).map Od.x:=by
 have e:l.take (j+1)=l.take j++[l[j]]:=(by rw[dN,aP hj];rfl);rw[kW,h,e,kW];rfl
theorem d9v{W:World}{g cap k:Nat}{ts:List Tok}(h:Row W g ts)(hT:lC ts)(hfew:ts.length<=100000)(hk:k<ts.length)(q:Qu)(si sj sw:Value)(P:Nat->Prop)(h1:q.group=[])(h2:q.having=zeroE)(h3:q.orders=[])(h4:q.limit= -1)(hp:d2t P W q si sj sw d2i d2i d2i):
  eu 133 #[RS g ts.length cap k,QV q si sj sw d2i d2i d2i] W (e0z P g cap ts W (e2o ts q k)):=by
 obtain⟨d,items,⟨ft,fa⟩,joins,⟨xk,⟨x1,x2,x3⟩,xt,xn,xo,xa⟩,group,having,orders,lim⟩:=q;simp only at h1 h2 h3 h4;subst h1 h2 h3 h4;obtain⟨R,HR⟩:∃R,Hid (R=e2o ts ⟨d,items,⟨ft,fa⟩,joins,.mk xk (x1,x2,x3) xt xn xo xa,[],zeroE,[],-1⟩ k):=⟨_,rfl⟩
 rw[<-HR.o];have H:=aB h;have HK:=aB hk;have HTK:=aB hT;have Y0:Hid (YH P W ((((W.alloc (.cells (sC g ts.length cap k).toArray 54)).alloc (.cells (qLs d si ft fa sj xk x1 x2 x3 xt xn xo sw).toArray 36)).alloc (.cells zSt.toArray 54)).alloc (.cells zQL.toArray 36)) g ts.length cap k ⟨d,items,⟨ft,fa⟩,joins,.mk xk (x1,x2,x3) xt xn xo xa,[],zeroE,[],-1⟩ si sj sw d2i d2i d2i):=
  ⟨((((Bl.refl W).alloc _).alloc _).alloc _).alloc _,(aW _ _ cC).trans (uA _ _ _ _),(aW _ _ cC).trans (oZ _ _ _ _),(aW _ _ aa).trans (aV _ _ aa),aV _ _ aa,(hp.of fun b hl hb=> .inl ⟨hb,hl⟩).bl (((((Bl.refl W).alloc _).alloc _).alloc _).alloc _)⟩
 have HP0:=aB (hp.of (r:=fun b=>P b/\b<W.heap.size) fun b hl hb=>⟨hb,hl⟩);obtain⟨s0,s1,-,-,-⟩:=aU Y0.o.s;have HZ0:=aB Y0.o.size;clear h hk hT hp;go_enter func133,ntmps133;go_wp2_with fail;refine(d4x (H.o.bl (Y0.o.bl.alloc _)) HTK.o hfew HK.o _ [d4q,wBy] (lF 2 rfl (aV _ _ aa)) aa false).mono ?_;rintro e w1 ⟨hb1,k1,l,v,c,hk1,rfl,hrow,hcase⟩;have Y1:=aB (Y0.o.call (((Bl.refl _).alloc _).call hb1));obtain⟨a,cl,rfl,-⟩:=hrow.shape;have HRW1:=aB (hrow.of (q:=fun b=>W.heap.size+4<=b/\b<w1.heap.size) fun b hl (hb:_<=b)=>⟨by have:=HZ0.o;simp only[aR] at this hb;omega,hl⟩);have HC:Hid ((c=0/\l.length<=ts.length/\d4v ts k= .good k1 (l.map Od.x))\/((c=260\/c=261\/c=270)/\R= .bad c/\l=[])):=by
  rcases hcase with⟨h1,h2⟩|⟨h1,h2,h3⟩
  ·obtain⟨h5,h6⟩:=e2l h2;exact .inl ⟨h1,h6,h5⟩
  ·refine .inr ⟨h1,?_,h3⟩;rw[HR.o];unfold e2o;rw[e3w h2];rfl
 clear hb1 hrow hcase s0 s1 Y0;go_wp2_with (refine bA rfl rfl rfl rfl (sC g ts.length cap k1) (Y1).o.s rfl rfl d2j rfl ?_)
 intro w2 hB2 hX2;have Y2:=aB ((Y1).o.putS hB2 hX2);have HB2:=aB hB2;clear hB2 hX2;have HRW2:=aB (HRW1.o.but HB2.o (fun i hi=>by omega));obtain⟨N,hN⟩:∃N,Hid (w2.heap.size=N):=⟨_,rfl⟩
 have HG0:Hid (YG W w2 g ts.length cap N k1 ⟨d,items,⟨ft,fa⟩,joins,.mk xk (x1,x2,x3) xt xn xo xa,[],zeroE,[],-1⟩ si sj sw d2i (.slice a l.length cl) l []):=
  ⟨Y2.o.bl,Y2.o.s,Y2.o.m,Y2.o.r,Y2.o.x,HRW2.o.of (fun b hl hb=>⟨hb.1,by have:=hN.o;omega⟩),d2l _ _ _ _,fun y hy=>(by cases hy),by rw[hN.o];exact aH _,by have:=hN.o;have:=Y2.o.size;omega⟩
 have hll:l.length<=1000000:=by rcases HC.o with h|h;have:=h.2.1;omega;rw[h.2.2];simp
 clear Y1 Y2 HRW1 HRW2 HB2 hN;go_wp2_with fail;go_loopw [9] (fun i wr=>∃(j:Nat) (v0:Value) (acc:List (Ex×Value)),i= .int .i64 (j:Int)/\j<=l.length/\acc.length=j/\Hid (YG W wr g ts.length cap N k1 ⟨d,items,⟨ft,fa⟩,joins,.mk xk (x1,x2,x3) xt xn xo xa,[],zeroE,[],-1⟩ si sj sw v0 (.slice a l.length cl) l acc)/\Hid (acc.map (·.1)=(l.take j).map Od.x)) (fun i _=>l.length-(intOf i).toNat)
 case atStart=>exact⟨0,_,[],rfl,dL _,rfl,HG0.o,by simp[Hid]⟩
 case round=>
  clear HG0;obtain⟨j,v0,acc,rfl,hj,haj,HG,HA⟩:=hrel;by_cases hlt:j<l.length
  ·as_aux_lemma=>
   obtain⟨a',cl',e,hsh⟩:=HG.o.lr.shape;obtain⟨rfl,rfl⟩:a=a'/\cl=cl':=de;obtain⟨b,off,s,rfl,hb,hbl,hcs,hr⟩:=hsh j hlt;have HAN:=aB (fun s=>e6a (s:=s) HA.o hlt);obtain⟨asl,cs,rfl⟩:=hr.shape;have HRD:=aB hr;generalize l[j]=y at *;obtain⟨⟨yk,⟨y1,y2,y3⟩,yt,yn,yo,ya⟩,dn⟩:=y;simp only[fOd,Ex.args] at HRD;have h8:At8 wr b (off+j * 9) (.mk yk (y1,y2,y3) yt yn yo ya) (.slice asl ya.length cs):=⟨hcs 0 _ rfl,hcs 1 _ rfl,hcs 2 _ rfl,hcs 3 _ rfl,hcs 4 _ rfl,hcs 5 _ rfl,hcs 6 _ rfl,hcs 7 _ rfl⟩
   have HAT:=aB h8;have hlow:=aB HG.o.o.lt;have hbN:=hb.2;have hbW:=hb.1;have hlt':(j:Int)<(l.length:Int):=aE;clear hr hcs hsh e hb h8;go_wp2_with fail;refine wp_region_noPanic (bM (fun B=>At8 B b (off+j * 9) (.mk yk (y1,y2,y3) yt yn yo ya) (.slice asl ya.length cs)) ((.take 0 (.take 2 (.take 3 (.take 4 (.take 5 (.take 6 (.two 1 7 (.one 7 (.one 8 (.take 9 (.one 10 .done)))) (.one 1 (.one 8 (.take 9 (.one 10 .done)))))))))))) ab ab ab (fun _ _ _ _ _ h=>h) (HAT.o.bl' ((Bl.refl _).drew)) ?_);intro wd HWD hY;iterate 6 (refine aI rfl ae eg ?_;(try simp only[aK,aA,aD,aF]))
   refine sZ ?_ ?_
   focus
    have q13:World.cell? wd ⟨W.heap.size+1,13,none⟩=some v0:=(aG ((HWD.o.block _ (lt_of_heap HG.o.m)).trans HG.o.m) 13).trans rfl;have q13l:W.heap.size+1<wd.heap.size:=eJ;refine aL rfl (fun K hK=>?_);go_simp;refine hK.o _ _ (hY) ?_;clear hY hK K;intro hY;refine aL rfl (fun K hK=>?_);rw[if_pos ae];refine d9c (vs:=qD (.mk yk (y1,y2,y3) yt yn yo ya) (.slice asl ya.length cs)) rfl underlying31 rfl ex1 rfl ?_;refine hK.o _ _ (hY.bl' ((Bl.refl _).alloc _)) ?_;clear hY hK K;intro hY;(try simp only[aK,aA,aD,aF])
    refine aL rfl (fun K hK=>?_);rw[if_pos ae];refine d7n (.tmp 27) (.tmp 33) rfl N v0 acc rfl (gY ((Bl.refl _).alloc _) (gY HWD.o HG.o.o)) wd.heap.size (.mk yk (y1,y2,y3) yt yn yo ya) asl ya.length cs rfl (aN wd _) aE (by have:=HG.o.z;have:=HWD.o.size;rw[aR];omega) ?_;intro v' w5 hown5 hg5 hat;refine hK.o _ _ (hY.keep (hg5.block b (by have:=hY.lt';omega) (fun e=>by have:=(hlow.o b e.symm).1;omega))) (fun hY2=>?_);clear hY hK K;have hY:=hY2;clear hY2;have HM5:=aB ((hg5.block (W.heap.size+1) (by have:=HG.o.size;have:=HWD.o.size;rw[aR];omega) (fun e=>by have:=(hlow.o _ e.symm).1;have:=HG.o.y;omega)).trans ((aW _ _ eJ).trans ((HWD.o.block _ (lt_of_heap HG.o.m)).trans HG.o.m)));obtain⟨g5,cap5,rfl⟩:=nG hown5;refine aI rfl ae eg ?_;(try simp only[aK,aA,aD,aF])
    refine aL rfl (fun K hK=>?_);rw[if_pos ae];refine bC rfl rfl rfl (quC ⟨d,items,⟨ft,fa⟩,joins,.mk xk (x1,x2,x3) xt xn xo xa,[],zeroE,[],-1⟩ si sj sw (.slice (some ⟨g5,0,none⟩) (acc.length+1) cap5) d2i d2i) HM5.o rfl rfl d8o rfl ?_;intro w6 hB6 hX6;refine hK.o _ _ ((hY.keep (hB6.same b aE))) ?_;clear hY hK K;intro hY;(try simp only[aK])
    refine fO (bF ?_);have HG6:=aB (HG.o.round (HWD.o.alloc _) HRD.o hown5 hg5 hB6 hX6);clear hY hown5 hg5 hat hB6 hX6 HM5;go_wp2;go_roundw
    case rel=>exact⟨j+1,.slice (some ⟨g5,0,none⟩) (acc.length+1) cap5,acc++[(.mk yk (y1,y2,y3) yt yn yo ya,.slice asl ya.length cs)],by go_num,by omega,by rw[bD,haj];rfl,HG6,aB (HAN.o _)⟩
    case measure=>simp[intOf];omega
   rotate_left 1
   focus
    refine aL rfl (fun K hK=>?_);rw[if_pos ae];refine d9c (vs:=qD (.mk yk (y1,y2,y3) yt yn yo ya) (.slice asl ya.length cs)) rfl underlying31 rfl ex1 rfl ?_;refine hK.o _ _ (hY.bl' ((Bl.refl _).alloc _)) ?_;clear hY hK K;intro hY;(try simp only[aK,aA,aD,aF])
    have q13:World.cell? wd ⟨W.heap.size+1,13,none⟩=some v0:=(aG ((HWD.o.block _ (lt_of_heap HG.o.m)).trans HG.o.m) 13).trans rfl;have q13l:W.heap.size+1<wd.heap.size:=eJ;refine aL rfl (fun K hK=>?_);go_simp;refine hK.o _ _ (hY) ?_;clear hY hK K;intro hY;refine aL rfl (fun K hK=>?_);rw[if_pos ae];refine d7n (.tmp 27) (.tmp 33) rfl N v0 acc rfl (gY ((Bl.refl _).alloc _) (gY HWD.o HG.o.o)) wd.heap.size (.mk yk (y1,y2,y3) yt yn yo ya) asl ya.length cs rfl (aN wd _) aE (by have:=HG.o.z;have:=HWD.o.size;rw[aR];omega) ?_;intro v' w5 hown5 hg5 hat;refine hK.o _ _ (hY.keep (hg5.block b (by have:=hY.lt';omega) (fun e=>by have:=(hlow.o b e.symm).1;omega))) (fun hY2=>?_);clear hY hK K;have hY:=hY2;clear hY2;have HM5:=aB ((hg5.block (W.heap.size+1) (by have:=HG.o.size;have:=HWD.o.size;rw[aR];omega) (fun e=>by have:=(hlow.o _ e.symm).1;have:=HG.o.y;omega)).trans ((aW _ _ eJ).trans ((HWD.o.block _ (lt_of_heap HG.o.m)).trans HG.o.m)));obtain⟨g5,cap5,rfl⟩:=nG hown5;refine aI rfl ae eg ?_;(try simp only[aK,aA,aD,aF])
    refine aL rfl (fun K hK=>?_);rw[if_pos ae];refine bC rfl rfl rfl (quC ⟨d,items,⟨ft,fa⟩,joins,.mk xk (x1,x2,x3) xt xn xo xa,[],zeroE,[],-1⟩ si sj sw (.slice (some ⟨g5,0,none⟩) (acc.length+1) cap5) d2i d2i) HM5.o rfl rfl d8o rfl ?_;intro w6 hB6 hX6;refine hK.o _ _ ((hY.keep (hB6.same b aE))) ?_;clear hY hK K;intro hY;(try simp only[aK])
    refine fO (bF ?_);have HG6:=aB (HG.o.round (HWD.o.alloc _) HRD.o hown5 hg5 hB6 hX6);clear hY hown5 hg5 hat hB6 hX6 HM5;go_wp2;go_roundw
    case rel=>exact⟨j+1,.slice (some ⟨g5,0,none⟩) (acc.length+1) cap5,acc++[(.mk yk (y1,y2,y3) yt yn yo ya,.slice asl ya.length cs)],by go_num,by omega,by rw[bD,haj];rfl,HG6,aB (HAN.o _)⟩
    case measure=>simp[intOf];omega
  ·as_aux_lemma=>
   obtain rfl:j=l.length:=aE;have HGR:=aB (show acc.map (·.1)=l.map Od.x from by rw[HA.o,gJ]);have HY:=aB (HG.o.rest HP0.o);rw[HGR.o] at HY;have hv0:=d6d HY.o.p.group;obtain⟨ga,gc,hgv⟩:=HY.o.p.group.shape;obtain rfl:v0= .slice ga (l.map Od.x).length gc:=hgv;have HS:Hid ((c=0/\(l.map Od.x).length<=1000000/\R=(d5u ts (l.map Od.x) k1).bind fun k2 h=>d9t ts ⟨d,items,⟨ft,fa⟩,joins,.mk xk (x1,x2,x3) xt xn xo xa,l.map Od.x,h,[],-1⟩ k2)\/((c=260\/c=261\/c=270)/\R= .bad c)):=by
    rcases HC.o with⟨h1,h2,h3⟩|⟨h1,h2,h3⟩
    ·exact .inl ⟨h1,by rw[mD];exact hll,by rw[HR.o];unfold e2o;rw[h3];rfl⟩
    ·exact .inr ⟨h1,h2⟩
   have hGl:l.length=(l.map Od.x).length:=aa;clear HG HA HGR haj HC HR HP0 hlt hll hj;rw[hGl];clear hGl;generalize l.map Od.x=G at *;obtain⟨s0,s1,-,-,-⟩:=aU HY.o.s
   go_upto_region 6 with fail
   go_cut [42] from 36 to 41 (fun t wc=>∃bb:Bool,t= .bool bb/\wc=wr/\Hid ((bb=true/\c=0/\G≠[])\/(bb=false/\(c≠0\/G=[]))))
   case first=>
    by_cases hc0:c=0
    ·subst hc0;by_cases hg0:G=[]
     ·have hg2:¬(0:Int)<(G.length:Int):=by rw[hg0];simp
      have HG0:=aB hg0;clear hg0;go_wp2
      go_meet
      case rel=>refine⟨false,?_,?_,.inr ⟨rfl,.inr HG0.o⟩⟩<;>first |rfl|trivial|(rw[HG0.o];rfl)
     ·have hg1:0<G.length:=qH.2 hg0;have hg2:(0:Int)<(G.length:Int):=aE;have HG0:=aB hg0;clear hg0;go_wp2
      go_meet
      case rel=>refine⟨true,?_,?_,.inl ⟨rfl,by first |rfl|trivial,HG0.o⟩⟩<;>first |rfl|trivial
    ·have hcb:(c==0)=false:=by simpa using hc0
     have HG0:=aB hc0;clear hc0;go_wp2
     go_meet
     case rel=>refine⟨false,?_,?_,.inr ⟨rfl,.inl HG0.o⟩⟩<;>first |rfl|trivial
   case rest=>
   obtain⟨bb,rfl,rfl,HBB⟩:=hcut
   go_upto_if 42 with fail
   go_cut [8] from 43 to 49 (fun no wc=>∃(kj:Nat) (hav:Ex) (sh:Value) (c2:Int),no= .int .i64 c2/\kj<ts.length/\Hid (YH P W wc g ts.length cap kj ⟨d,items,⟨ft,fa⟩,joins,.mk xk (x1,x2,x3) xt xn xo xa,G,hav,[],-1⟩ si sj sw (.slice ga G.length gc) sh d2i)/\Hid ((c2=0/\R=d9t ts ⟨d,items,⟨ft,fa⟩,joins,.mk xk (x1,x2,x3) xt xn xo xa,G,hav,[],-1⟩ kj)\/((c2=260\/c2=261\/c2=270)/\R= .bad c2)))
   case first=>
    as_aux_lemma=>
    rcases HBB.o with⟨rfl,rfl,hne⟩|⟨rfl,hq⟩
    rotate_left
    ·have HE:Hid ((c=0/\R=d9t ts ⟨d,items,⟨ft,fa⟩,joins,.mk xk (x1,x2,x3) xt xn xo xa,G,zeroE,[],-1⟩ k1)\/((c=260\/c=261\/c=270)/\R= .bad c)):=by
      rcases HS.o with⟨h1,-,h3⟩|h
      ·refine .inl ⟨h1,?_⟩;rw[h3,hq.resolve_left (fun h=>h h1)];rfl
      ·exact .inr h
     clear hq HBB HS;go_wp2
     go_meet
     case rel=>exact⟨k1,zeroE,d2i,c,rfl,hk1,HY,HE⟩
    have HRH:Hid (R=(d3s ts d3v k1).bind fun k2 h=>d9t ts ⟨d,items,⟨ft,fa⟩,joins,.mk xk (x1,x2,x3) xt xn xo xa,G,h,[],-1⟩ k2):=by
     rcases HS.o with⟨-,-,h3⟩|⟨h,-⟩
     ·show _=_;rw[h3];unfold d5u;rw[if_neg hne]
     ·omega
    clear hne HBB HS;go_wp2_with fail;refine(d5m (H.o.bl HY.o.bl) HTK.o hfew hk1 d3v).mono ?_;rintro e w20 ⟨hb20,k20,c20,hk,h1,h2,h3,ht,hn,ho,ha,asv,csv,hk20,rfl,hA,hcase⟩;have Y20:=aB (HY.o.call hb20);have hzy:=HY.o.size;have HA20:=aB (show bG (fun b=>(P b/\b<W.heap.size)\/W.heap.size+4<=b) w20 (.slice asv ha.length csv) ha from hA.of fun b _ (hb:_<=b)=> .inr aE);have HE:Hid ((c20=0/\R=d9t ts ⟨d,items,⟨ft,fa⟩,joins,.mk xk (x1,x2,x3) xt xn xo xa,G,.mk hk (h1,h2,h3) ht hn ho ha,[],-1⟩ k20)\/((c20=260\/c20=261\/c20=270)/\R= .bad c20)):=by
     rcases hcase with⟨h1,h2⟩|⟨h1,h2⟩
     ·exact .inl ⟨h1,by rw[HRH.o,h2];rfl⟩
     ·exact .inr ⟨h1,by rw[HRH.o,h2];rfl⟩
    clear hb20 hA hcase s0 s1 HY HRH;go_wp2_with (refine bA rfl rfl rfl rfl (sC g ts.length cap k20) (Y20).o.s rfl rfl d2j rfl ?_)
    intro w21 hB21 hX21;have Y21:=aB ((Y20).o.putS hB21 hX21);have HB21:=aB hB21;clear hB21 hX21;go_wp2_with (refine bA rfl rfl rfl rfl (quC ⟨d,items,⟨ft,fa⟩,joins,.mk xk (x1,x2,x3) xt xn xo xa,G,.mk hk (h1,h2,h3) ht hn ho ha,[],-1⟩ si sj sw (.slice ga G.length gc) (.slice asv ha.length csv) d2i) (Y21).o.m rfl rfl d4b rfl ?_)
    intro w22 hB22 hX22;have Y22:=aB ((Y21).o.putQ (q':=⟨d,items,⟨ft,fa⟩,joins,.mk xk (x1,x2,x3) xt xn xo xa,G,.mk hk (h1,h2,h3) ht hn ho ha,[],-1⟩) hB22 hX22 ⟨Y21.o.p.items,Y21.o.p.joins,Y21.o.p.wher,Y21.o.p.group,HA20.o.but HB21.o (fun i hi=>by omega),.nil _ _ _ _⟩);obtain⟨s0,s1,-,-,-⟩:=aU Y22.o.s;clear hB22 hX22;clear Y20 Y21 HB21 HA20;go_wp2
    go_meet
    case rel=>exact⟨k20,_,_,c20,rfl,hk20,Y22,HE⟩
   case rest=>
   clear HY HS HBB s0 s1 hk1 hv0;obtain⟨kj,⟨hk,⟨h1,h2,h3⟩,ht,hn,ho,ha⟩,sh,c2,rfl,hkj,HY2,HS2⟩:=hcut;rcases HS2.o with⟨rfl,hR⟩|⟨hc,hR⟩
   rotate_left
   ·as_aux_lemma=>
    have HE9:Hid ((c2=0/\R= .good kj ⟨d,items,⟨ft,fa⟩,joins,.mk xk (x1,x2,x3) xt xn xo xa,G,.mk hk (h1,h2,h3) ht hn ho ha,[],-1⟩)\/((c2=260\/c2=261\/c2=270)/\R= .bad c2)):= .inr ⟨hc,hR⟩;have HKK9:=aB hkj;have hc0:¬c2=0:=aE;have hcb:(c2==0)=false:=ap;have hcb':(c2 != 0)=true:=ap;clear hR hc HS2;go_wp2_with fail;have HY9:=HY2;have HO9:=aB HY9.o.p.one;refine wp_region_noPanic (bM (fun B=>B.heap[W.heap.size]?=some (.cells (sC g ts.length cap kj).toArray 54 (0,0))/\B.heap[W.heap.size+1]?=some (.cells (quC ⟨d,items,⟨ft,fa⟩,joins,.mk xk (x1,x2,x3) xt xn xo xa,G,.mk hk (h1,h2,h3) ht hn ho ha,[],-1⟩ si sj sw (.slice ga G.length gc) sh d2i).toArray 36 (0,0))) ((.take 0 (.take 1 (.take 2 (.one 3 (.one 4 (.take 5 .done))))))) ab ab ab (fun _ _ _ _ _ h=>h) (eB ⟨HY9.o.s,HY9.o.m⟩ ((Bl.refl _).drew)) ?_);intro wd HWD hY;refine aI rfl ae (fun w hSw=>eD rfl rfl hSw.1 underlying54 rfl d2j) ?_;(try simp only[aK,aA,aD,aF])
    refine aI rfl ae (fun w hSw=>eD rfl rfl hSw.2 underlying36 rfl tC) ?_;(try simp only[aK,aA,aD,aF])
    refine cT ?_;refine aL rfl (fun K hK=>?_);rw[if_pos ae];refine bC rfl rfl rfl (sC g ts.length cap kj) (HY9.o.call HWD.o).r rfl rfl d2j rfl ?_;intro w8 hB8 hX8;refine hK.o _ _ (pV hY hB8 aE aE) ?_;clear hY hK K;intro hY;(try simp only[aK])
    refine aL rfl (fun K hK=>?_);rw[if_pos ae];refine bC rfl rfl rfl (quC ⟨d,items,⟨ft,fa⟩,joins,.mk xk (x1,x2,x3) xt xn xo xa,G,.mk hk (h1,h2,h3) ht hn ho ha,[],-1⟩ si sj sw (.slice ga G.length gc) sh d2i) ((hB8.same (W.heap.size+3) aE).trans (HY9.o.call HWD.o).x) rfl rfl tC HO9.o ?_;intro w9 hB9 hX9;refine hK.o _ _ (pV hY hB9 aE aE) ?_;clear hY hK K;intro hY;(try simp only[aK])
    refine cT ?_;refine fO (bF ?_);have HR9:=aB ((hB9.same (W.heap.size+2) aE).trans hX8);have HX9:=aB hX9;have HP9:=aB ((((HY9.o.p.bl HWD.o).but hB8 (fun i hi=>by omega)).but hB9 (fun i hi=>by omega)).of (r:=fun b=>P b\/W.heap.size<=b) fun b _ hb=>by rcases hb with hb|hb;exact .inl hb.1;exact .inr aE);have HBL9:=aB (((HY9.o.call HWD.o).bl.but hB8 aE).but hB9 aE);clear hB8 hX8 hB9 hX9;go_wp2;refine bodyPost_ret (YH.results HX9.o HR9.o rfl rfl rfl) rfl ?_;refine⟨HBL9.o,kj,⟨d,items,⟨ft,fa⟩,joins,.mk xk (x1,x2,x3) xt xn xo xa,G,.mk hk (h1,h2,h3) ht hn ho ha,[],-1⟩,_,_,_,_,_,_,c2,HKK9.o,?_,HP9.o,?_⟩
    ·rfl
    ·first |exact HE9.o|exact .inl ⟨rfl,HE9.o⟩
   as_aux_lemma=>
   have HRA:=aB hR;clear hR HS2;obtain⟨s0,s1,-,-,-⟩:=aU HY2.o.s;have hz2:=HY2.o.size;go_wp2_with fail;refine(d4x (H.o.bl (HY2.o.bl.alloc _)) HTK.o hfew hkj _ [d5n,wBy] (lF 2 rfl (aV _ _ aa)) aa true).mono ?_;rintro e w30 ⟨hb30,k30,ol,ov,c30,hk30,rfl,hrow,hcase⟩;have Y30:=aB (HY2.o.call (((Bl.refl _).alloc _).call hb30));obtain⟨oa,oc,rfl,-⟩:=hrow.shape;have HRW30:=aB (hrow.of (q:=fun b=>(P b/\b<W.heap.size)\/W.heap.size+4<=b) fun b _ (hb:_<=b)=> .inr (by simp only[aR] at hb;omega));have HC30:Hid ((c30=0/\R=e4g ts ⟨d,items,⟨ft,fa⟩,joins,.mk xk (x1,x2,x3) xt xn xo xa,G,.mk hk (h1,h2,h3) ht hn ho ha,ol,-1⟩ k30)\/((c30=260\/c30=261\/c30=270)/\R= .bad c30)):=by
    rcases hcase with⟨h1,h2⟩|⟨h1,h2,-⟩
    ·rw[d8f] at h2;exact .inl ⟨h1,by rw[HRA.o];unfold d9t;rw[h2];rfl⟩
    ·rw[d8f] at h2;exact .inr ⟨h1,by rw[HRA.o];unfold d9t;rw[h2];rfl⟩
   clear hb30 hrow hcase s0 s1 HY2 HRA;go_wp2_with (refine bA rfl rfl rfl rfl (sC g ts.length cap k30) (Y30).o.s rfl rfl d2j rfl ?_)
   intro w31 hB31 hX31;have Y31:=aB ((Y30).o.putS hB31 hX31);have HB31:=aB hB31;clear hB31 hX31;go_wp2_with (refine bA rfl rfl rfl rfl (quC ⟨d,items,⟨ft,fa⟩,joins,.mk xk (x1,x2,x3) xt xn xo xa,G,.mk hk (h1,h2,h3) ht hn ho ha,ol,-1⟩ si sj sw (.slice ga G.length gc) sh (.slice oa ol.length oc)) (Y31).o.m rfl rfl e0p rfl ?_)
   intro w32 hB32 hX32;have Y32:=aB ((Y31).o.putQ (q':=⟨d,items,⟨ft,fa⟩,joins,.mk xk (x1,x2,x3) xt xn xo xa,G,.mk hk (h1,h2,h3) ht hn ho ha,ol,-1⟩) hB32 hX32 ⟨Y31.o.p.items,Y31.o.p.joins,Y31.o.p.wher,Y31.o.p.group,Y31.o.p.having,HRW30.o.but HB31.o (fun i hi=>by omega)⟩);obtain⟨s0,s1,-,-,-⟩:=aU Y32.o.s;clear hB32 hX32;clear Y30 Y31 HB31 HRW30;rcases HC30.o with⟨rfl,hR⟩|⟨hc,hR⟩
   rotate_left
   ·as_aux_lemma=>
    have HE9:Hid ((c30=0/\R= .good k30 ⟨d,items,⟨ft,fa⟩,joins,.mk xk (x1,x2,x3) xt xn xo xa,G,.mk hk (h1,h2,h3) ht hn ho ha,ol,-1⟩)\/((c30=260\/c30=261\/c30=270)/\R= .bad c30)):= .inr ⟨hc,hR⟩;have HKK9:=aB hk30;have hc0:¬c30=0:=aE;have hcb:(c30==0)=false:=ap;have hcb':(c30 != 0)=true:=ap;clear hR hc HC30;go_wp2_with fail;have HY9:=Y32;have HO9:=aB HY9.o.p.one;refine wp_region_noPanic (bM (fun B=>B.heap[W.heap.size]?=some (.cells (sC g ts.length cap k30).toArray 54 (0,0))/\B.heap[W.heap.size+1]?=some (.cells (quC ⟨d,items,⟨ft,fa⟩,joins,.mk xk (x1,x2,x3) xt xn xo xa,G,.mk hk (h1,h2,h3) ht hn ho ha,ol,-1⟩ si sj sw (.slice ga G.length gc) sh (.slice oa ol.length oc)).toArray 36 (0,0))) ((.take 0 (.take 1 (.take 2 (.one 3 (.one 4 (.take 5 .done))))))) ab ab ab (fun _ _ _ _ _ h=>h) (eB ⟨HY9.o.s,HY9.o.m⟩ ((Bl.refl _).drew)) ?_);intro wd HWD hY;refine aI rfl ae (fun w hSw=>eD rfl rfl hSw.1 underlying54 rfl d2j) ?_;(try simp only[aK,aA,aD,aF])
    refine aI rfl ae (fun w hSw=>eD rfl rfl hSw.2 underlying36 rfl tC) ?_;(try simp only[aK,aA,aD,aF])
    refine cT ?_;refine aL rfl (fun K hK=>?_);rw[if_pos ae];refine bC rfl rfl rfl (sC g ts.length cap k30) (HY9.o.call HWD.o).r rfl rfl d2j rfl ?_;intro w8 hB8 hX8;refine hK.o _ _ (pV hY hB8 aE aE) ?_;clear hY hK K;intro hY;(try simp only[aK])
    refine aL rfl (fun K hK=>?_);rw[if_pos ae];refine bC rfl rfl rfl (quC ⟨d,items,⟨ft,fa⟩,joins,.mk xk (x1,x2,x3) xt xn xo xa,G,.mk hk (h1,h2,h3) ht hn ho ha,ol,-1⟩ si sj sw (.slice ga G.length gc) sh (.slice oa ol.length oc)) ((hB8.same (W.heap.size+3) aE).trans (HY9.o.call HWD.o).x) rfl rfl tC HO9.o ?_;intro w9 hB9 hX9;refine hK.o _ _ (pV hY hB9 aE aE) ?_;clear hY hK K;intro hY;(try simp only[aK])
    refine cT ?_;refine fO (bF ?_);have HR9:=aB ((hB9.same (W.heap.size+2) aE).trans hX8);have HX9:=aB hX9;have HP9:=aB ((((HY9.o.p.bl HWD.o).but hB8 (fun i hi=>by omega)).but hB9 (fun i hi=>by omega)).of (r:=fun b=>P b\/W.heap.size<=b) fun b _ hb=>by rcases hb with hb|hb;exact .inl hb.1;exact .inr aE);have HBL9:=aB (((HY9.o.call HWD.o).bl.but hB8 aE).but hB9 aE);clear hB8 hX8 hB9 hX9;go_wp2;refine bodyPost_ret (YH.results HX9.o HR9.o rfl rfl rfl) rfl ?_;refine⟨HBL9.o,k30,⟨d,items,⟨ft,fa⟩,joins,.mk xk (x1,x2,x3) xt xn xo xa,G,.mk hk (h1,h2,h3) ht hn ho ha,ol,-1⟩,_,_,_,_,_,_,c30,HKK9.o,?_,HP9.o,?_⟩
    ·rfl
    ·first |exact HE9.o|exact .inl ⟨rfl,HE9.o⟩
   have HRA:=aB hR;clear hR HC30;go_wp2_with fail;refine(dH H.o (Y32.o.bl.alloc _) hfew hk30 1 [d6p] rfl aa (aV _ _ aa)).mono ?_;rintro e w40 ⟨rfl,hb40⟩;rw[d2x];have Y40:=aB (Y32.o.call (((Bl.refl _).alloc _).call hb40));clear hb40 s0 s1 Y32;cases htk:bH ts k30 [d6p] with
   |none=>
    as_aux_lemma=>
    have HE9:=aB (show R= .good k30 ⟨d,items,⟨ft,fa⟩,joins,.mk xk (x1,x2,x3) xt xn xo xa,G,.mk hk (h1,h2,h3) ht hn ho ha,ol,-1⟩ from by rw[HRA.o];unfold e4g d8h;rw[htk];rfl);have HKK9:=aB hk30;have Y41:=aB (Y40.o.call ((Bl.refl w40).alloc (.cells (sC g ts.length cap k30).toArray 54)));clear htk HRA;go_wp2_with fail;have HY9:=Y41;have HO9:=aB HY9.o.p.one;refine wp_region_noPanic (bM (fun B=>B.heap[W.heap.size]?=some (.cells (sC g ts.length cap k30).toArray 54 (0,0))/\B.heap[W.heap.size+1]?=some (.cells (quC ⟨d,items,⟨ft,fa⟩,joins,.mk xk (x1,x2,x3) xt xn xo xa,G,.mk hk (h1,h2,h3) ht hn ho ha,ol,-1⟩ si sj sw (.slice ga G.length gc) sh (.slice oa ol.length oc)).toArray 36 (0,0))) ((.take 0 (.take 1 (.one 2 (.one 3 (.take 4 .done)))))) ab ab ab (fun _ _ _ _ _ h=>h) (eB ⟨HY9.o.s,HY9.o.m⟩ ((Bl.refl _).drew)) ?_);intro wd HWD hY;refine aI rfl ae (fun w hSw=>eD rfl rfl hSw.1 underlying54 rfl d2j) ?_;(try simp only[aK,aA,aD,aF])
    refine aI rfl ae (fun w hSw=>eD rfl rfl hSw.2 underlying36 rfl tC) ?_;(try simp only[aK,aA,aD,aF])
    refine aL rfl (fun K hK=>?_);rw[if_pos ae];refine bC rfl rfl rfl (sC g ts.length cap k30) (HY9.o.call HWD.o).r rfl rfl d2j rfl ?_;intro w8 hB8 hX8;refine hK.o _ _ (pV hY hB8 aE aE) ?_;clear hY hK K;intro hY;(try simp only[aK])
    refine aL rfl (fun K hK=>?_);rw[if_pos ae];refine bC rfl rfl rfl (quC ⟨d,items,⟨ft,fa⟩,joins,.mk xk (x1,x2,x3) xt xn xo xa,G,.mk hk (h1,h2,h3) ht hn ho ha,ol,-1⟩ si sj sw (.slice ga G.length gc) sh (.slice oa ol.length oc)) ((hB8.same (W.heap.size+3) aE).trans (HY9.o.call HWD.o).x) rfl rfl tC HO9.o ?_;intro w9 hB9 hX9;refine hK.o _ _ (pV hY hB9 aE aE) ?_;clear hY hK K;intro hY;(try simp only[aK])
    refine cT ?_;refine fO (bF ?_);have HR9:=aB ((hB9.same (W.heap.size+2) aE).trans hX8);have HX9:=aB hX9;have HP9:=aB ((((HY9.o.p.bl HWD.o).but hB8 (fun i hi=>by omega)).but hB9 (fun i hi=>by omega)).of (r:=fun b=>P b\/W.heap.size<=b) fun b _ hb=>by rcases hb with hb|hb;exact .inl hb.1;exact .inr aE);have HBL9:=aB (((HY9.o.call HWD.o).bl.but hB8 aE).but hB9 aE);clear hB8 hX8 hB9 hX9;go_wp2;refine bodyPost_ret (YH.results HX9.o HR9.o rfl rfl rfl) rfl ?_;refine⟨HBL9.o,k30,⟨d,items,⟨ft,fa⟩,joins,.mk xk (x1,x2,x3) xt xn xo xa,G,.mk hk (h1,h2,h3) ht hn ho ha,ol,-1⟩,_,_,_,_,_,_,0,HKK9.o,?_,HP9.o,?_⟩
    ·rfl
    ·first |exact HE9.o|exact .inl ⟨rfl,HE9.o⟩
   |some k4=>
   have hk4:=(kS HTK.o hk30 htk).2;obtain⟨y,hy⟩:∃y,ts[k4]?=some y:=⟨_,aP hk4⟩
   have HYT:=aB hy;have HRL:=aB (show R=(if y.v.1=2 then d2u.good (fT ts.length k4) y.v.2.1 else d2u.bad 261).bind fun k' l=>d2u.good k' ⟨d,items,⟨ft,fa⟩,joins,.mk xk (x1,x2,x3) xt xn xo xa,G,.mk hk (h1,h2,h3) ht hn ho ha,ol,l⟩ from by rw[HRA.o];unfold e4g d8h;rw[htk];simp only;rw[hy]);have Y41:=aB (Y40.o.call ((Bl.refl w40).alloc (.cells (sC g ts.length cap k4).toArray 54)));have HX41:=aB (aN w40 (.cells (sC g ts.length cap k4).toArray 54));have hz40:=Y40.o.size;obtain⟨s0,s1,-,-,-⟩:=aU HX41.o;clear htk HRA hy Y40;go_wp2_with fail
   (with_reducible refine(wC (H.o.bl Y41.o.bl) hfew HYT.o).mono ?_)
   rintro e w42 ⟨rfl,hb42⟩;obtain⟨yk,yp,yt,ya,yb,yc⟩:=y;simp only at HRL;have HB43:=aB (Bl.alloc hb42 (.cells #[.int .i64 yk,.int .i64 (yp:Int),S yt,.int .i64 ya,.int .i64 yb,S yc] 66));have Y43:=aB (Y41.o.call HB43.o);have HX43:=aB ((HB43.o.block _ (lt_of_heap HX41.o)).trans HX41.o);have HT43:=aB (aN w42 (.cells #[.int .i64 yk,.int .i64 (yp:Int),S yt,.int .i64 ya,.int .i64 yb,S yc] 66));have hz42:w40.heap.size<w42.heap.size:=(by have:=hb42.size;simp at this;omega);clear hb42 s0 s1 Y41 HB43 HYT;by_cases h4:ya=2
   ·as_aux_lemma=>
    subst h4;have HE9:=aB (show R= .good (fT ts.length k4) ⟨d,items,⟨ft,fa⟩,joins,.mk xk (x1,x2,x3) xt xn xo xa,G,.mk hk (h1,h2,h3) ht hn ho ha,ol,yb⟩ from by rw[HRL.o];rfl);have HKK9:Hid (fT ts.length k4<ts.length):=(by show _<_;unfold fT;split<;>omega);clear HRL;go_wp2_with fail;refine wp_region_noPanic (bM (fun B=>B.heap[w40.heap.size]?=some (.cells (sC g ts.length cap k4).toArray 54 (0,0))/\B.heap[w42.heap.size]?=some (.cells #[.int .i64 yk,.int .i64 (yp:Int),S yt,.int .i64 2,.int .i64 yb,S yc] 66 (0,0))) ((.take 0 (.take 2 (.take 3 (.take 4 (.one 1 (.one 5 (.take 6 (.one 7 .done))))))))) ab ab ab (fun _ _ _ _ _ h=>h) (eB ⟨HX43.o,HT43.o⟩ ((Bl.refl _).drew)) ?_);intro wd HWD hY;refine aI rfl ae (fun w hSw=>eD rfl rfl hSw.1 underlying54 rfl d2j) ?_;(try simp only[aK,aA,aD,aF])
    iterate 3 (refine aI rfl ae (by intro w hSw;(try dsimp only at hSw);obtain⟨⟨q0,q1,q2,q3,q4,q5⟩,-⟩:=kJ hSw.2;go_simp;(try(first |with_reducible rfl|rfl))) ?_;(try simp only[aK,aA,aD,aF]))
    refine aL rfl (fun K hK=>?_);go_simp;((with_reducible refine(a0c hk4 hfew).mono ?_);rintro e w44 ⟨rfl,hb44⟩;have hb:=hb44);go_wp2_with fail;refine hK.o _ _ ((by first |exact eB hY hb|exact pV hY hb aE aE)) ?_;clear hY hK K;intro hY;clear hb;refine aL rfl (fun K hK=>?_);rw[if_pos ae];refine bC rfl rfl rfl (sC g ts.length cap (fT ts.length k4)) ((Y43.o.call HWD.o).call hb44).s rfl rfl d2j rfl ?_;intro w45 hB45 hX45;refine hK.o _ _ ((by first |exact eB hY hB45|exact pV hY hB45 aE aE)) ?_;clear hY hK K;intro hY;(try simp only[aK])
    have Y45:=aB (((Y43.o.call HWD.o).call hb44).putS hB45 hX45);refine aI rfl ae (by intro w hSw;(try dsimp only at hSw);obtain⟨⟨q0,q1,q2,q3,q4,q5⟩,-⟩:=kJ hSw.2;go_simp;(try(first |with_reducible rfl|rfl))) ?_;(try simp only[aK,aA,aD,aF])
    refine aL rfl (fun K hK=>?_);rw[if_pos ae];refine bC rfl rfl rfl (quC ⟨d,items,⟨ft,fa⟩,joins,.mk xk (x1,x2,x3) xt xn xo xa,G,.mk hk (h1,h2,h3) ht hn ho ha,ol,yb⟩ si sj sw (.slice ga G.length gc) sh (.slice oa ol.length oc)) Y45.o.m rfl rfl e3v rfl ?_;intro w46 hB46 hX46;refine hK.o _ _ ((by first |exact eB hY hB46|exact pV hY hB46 aE aE)) ?_;clear hY hK K;intro hY;(try simp only[aK])
    refine fO (bF ?_);have Y46:=aB (Y45.o.putQ (q':=⟨d,items,⟨ft,fa⟩,joins,.mk xk (x1,x2,x3) xt xn xo xa,G,.mk hk (h1,h2,h3) ht hn ho ha,ol,yb⟩) hB46 hX46 ⟨Y45.o.p.items,Y45.o.p.joins,Y45.o.p.wher,Y45.o.p.group,Y45.o.p.having,Y45.o.p.orders⟩);clear hY hb44 hB45 hX45 hB46 hX46 Y45 Y43 HX43 HT43;go_wp2_with fail;have HY9:=Y46;have HO9:=aB HY9.o.p.one;refine wp_region_noPanic (bM (fun B=>B.heap[W.heap.size]?=some (.cells (sC g ts.length cap (fT ts.length k4)).toArray 54 (0,0))/\B.heap[W.heap.size+1]?=some (.cells (quC ⟨d,items,⟨ft,fa⟩,joins,.mk xk (x1,x2,x3) xt xn xo xa,G,.mk hk (h1,h2,h3) ht hn ho ha,ol,yb⟩ si sj sw (.slice ga G.length gc) sh (.slice oa ol.length oc)).toArray 36 (0,0))) ((.take 0 (.take 1 (.one 2 (.one 3 (.take 4 .done)))))) ab ab ab (fun _ _ _ _ _ h=>h) (eB ⟨HY9.o.s,HY9.o.m⟩ ((Bl.refl _).drew)) ?_);intro wd HWD hY;refine aI rfl ae (fun w hSw=>eD rfl rfl hSw.1 underlying54 rfl d2j) ?_;(try simp only[aK,aA,aD,aF])
    refine aI rfl ae (fun w hSw=>eD rfl rfl hSw.2 underlying36 rfl tC) ?_;(try simp only[aK,aA,aD,aF])
    refine aL rfl (fun K hK=>?_);rw[if_pos ae];refine bC rfl rfl rfl (sC g ts.length cap (fT ts.length k4)) (HY9.o.call HWD.o).r rfl rfl d2j rfl ?_;intro w8 hB8 hX8;refine hK.o _ _ (pV hY hB8 aE aE) ?_;clear hY hK K;intro hY;(try simp only[aK])
    refine aL rfl (fun K hK=>?_);rw[if_pos ae];refine bC rfl rfl rfl (quC ⟨d,items,⟨ft,fa⟩,joins,.mk xk (x1,x2,x3) xt xn xo xa,G,.mk hk (h1,h2,h3) ht hn ho ha,ol,yb⟩ si sj sw (.slice ga G.length gc) sh (.slice oa ol.length oc)) ((hB8.same (W.heap.size+3) aE).trans (HY9.o.call HWD.o).x) rfl rfl tC HO9.o ?_;intro w9 hB9 hX9;refine hK.o _ _ (pV hY hB9 aE aE) ?_;clear hY hK K;intro hY;(try simp only[aK])
    refine cT ?_;refine fO (bF ?_);have HR9:=aB ((hB9.same (W.heap.size+2) aE).trans hX8);have HX9:=aB hX9;have HP9:=aB ((((HY9.o.p.bl HWD.o).but hB8 (fun i hi=>by omega)).but hB9 (fun i hi=>by omega)).of (r:=fun b=>P b\/W.heap.size<=b) fun b _ hb=>by rcases hb with hb|hb;exact .inl hb.1;exact .inr aE);have HBL9:=aB (((HY9.o.call HWD.o).bl.but hB8 aE).but hB9 aE);clear hB8 hX8 hB9 hX9;go_wp2;refine bodyPost_ret (YH.results HX9.o HR9.o rfl rfl rfl) rfl ?_;refine⟨HBL9.o,(fT ts.length k4),⟨d,items,⟨ft,fa⟩,joins,.mk xk (x1,x2,x3) xt xn xo xa,G,.mk hk (h1,h2,h3) ht hn ho ha,ol,yb⟩,_,_,_,_,_,_,0,HKK9.o,?_,HP9.o,?_⟩
    ·rfl
    ·first |exact HE9.o|exact .inl ⟨rfl,HE9.o⟩
   ·as_aux_lemma=>
    have hyb:(ya==2)=false:=da;have hyb':(ya != 2)=true:=da;have HE9:=aB (show R= .bad 261 from by rw[HRL.o,if_neg h4];rfl);have HKK9:=aB hk4;have HO9:=aB Y43.o.p.one;clear HRL h4;go_wp2_with fail;refine wp_region_noPanic (bM (fun B=>B.heap[w40.heap.size]?=some (.cells (sC g ts.length cap k4).toArray 54 (0,0))/\B.heap[W.heap.size+1]?=some (.cells (quC ⟨d,items,⟨ft,fa⟩,joins,.mk xk (x1,x2,x3) xt xn xo xa,G,.mk hk (h1,h2,h3) ht hn ho ha,ol,-1⟩ si sj sw (.slice ga G.length gc) sh (.slice oa ol.length oc)).toArray 36 (0,0))) ((.take 0 (.take 1 (.one 2 (.one 3 (.take 4 .done)))))) ab ab ab (fun _ _ _ _ _ h=>h) (eB ⟨HX43.o,Y43.o.m⟩ ((Bl.refl _).drew)) ?_);intro wd HWD hY;refine aI rfl ae (fun w hSw=>eD rfl rfl hSw.1 underlying54 rfl d2j) ?_;(try simp only[aK,aA,aD,aF])
    refine aI rfl ae (fun w hSw=>eD rfl rfl hSw.2 underlying36 rfl tC) ?_;(try simp only[aK,aA,aD,aF])
    refine aL rfl (fun K hK=>?_);rw[if_pos ae];refine bC rfl rfl rfl (sC g ts.length cap k4) (Y43.o.call HWD.o).r rfl rfl d2j rfl ?_;intro w8 hB8 hX8;refine hK.o _ _ (pV hY hB8 aE aE) ?_;clear hY hK K;intro hY;(try simp only[aK])
    refine aL rfl (fun K hK=>?_);rw[if_pos ae];refine bC rfl rfl rfl (quC ⟨d,items,⟨ft,fa⟩,joins,.mk xk (x1,x2,x3) xt xn xo xa,G,.mk hk (h1,h2,h3) ht hn ho ha,ol,-1⟩ si sj sw (.slice ga G.length gc) sh (.slice oa ol.length oc)) ((hB8.same (W.heap.size+3) aE).trans (Y43.o.call HWD.o).x) rfl rfl tC HO9.o ?_;intro w9 hB9 hX9;refine hK.o _ _ (pV hY hB9 aE aE) ?_;clear hY hK K;intro hY;(try simp only[aK])
    refine cT ?_;refine fO (bF ?_);have HR9:=aB ((hB9.same (W.heap.size+2) aE).trans hX8);have HX9:=aB hX9;have HP9:=aB ((((Y43.o.p.bl HWD.o).but hB8 (fun i hi=>by omega)).but hB9 (fun i hi=>by omega)).of (r:=fun b=>P b\/W.heap.size<=b) fun b _ hb=>by rcases hb with hb|hb;exact .inl hb.1;exact .inr aE);have HBL9:=aB (((Y43.o.call HWD.o).bl.but hB8 aE).but hB9 aE);clear hB8 hX8 hB9 hX9;go_wp2;refine bodyPost_ret (YH.results HX9.o HR9.o rfl rfl rfl) rfl ?_;refine⟨HBL9.o,k4,⟨d,items,⟨ft,fa⟩,joins,.mk xk (x1,x2,x3) xt xn xo xa,G,.mk hk (h1,h2,h3) ht hn ho ha,ol,-1⟩,_,_,_,_,_,_,261,HKK9.o,?_,HP9.o,.inr ⟨.inr (.inl rfl),HE9.o⟩⟩;rfl
end
section
def e5u(g cap:Nat)(ts:List Tok)(k:Nat)(W:World)(r:d2u Qu)(e:Ending)(w':World):Prop:=Bl W w'/\∃k' q si sj sw sg sh so c,k'<ts.length/\e= .returned (.tuple #[RS g ts.length cap k',QV q si sj sw sg sh so,.int .i64 c])/\
 d2t (fun b=>W.heap.size<=b) w' q si sj sw sg sh so/\((c=0/\r= .good k' q)\/((c=260\/c=261\/c=270)/\r= .bad c/\k'=k/\q=d3z))
theorem e0s{ts:List Tok}{k:Nat}:d5c ts k=(d6b ts k).bind d3d:=rfl
theorem e2r{W:World}{g cap k:Nat}{ts:List Tok}(hk:k<ts.length)
  (hrd:∀w,Bl W w->eu 64 #[RS g ts.length cap k] w (e0z (fun _=>False) g cap ts w (d6b ts k))):
  eu 20 #[RS g ts.length cap k] W (e5u g cap ts k W (d5c ts k)):=by
 obtain⟨R,HR⟩:∃R,Hid (R=d5c ts k):=⟨_,rfl⟩
 rw[<-HR.o];have HK:=aB hk;have HRD:=aB hrd;have HF0:=aB (Fx.start W (sC g ts.length cap k) 36 zQL);obtain⟨s0,s1,-,-,-⟩:=aU HF0.o.s;clear hk hrd;go_enter func20,ntmps20;go_wp2_with fail;refine(HRD.o _ HF0.o.bl).mono ?_;rintro e w1 ⟨hb1,k1,q,si,sj,sw,sg,sh,so,c,hk1,rfl,hp1,hcase⟩;have HF1:=aB (HF0.o.call hb1);have HZ0:=aB HF0.o.size;have HONE:=aB hp1.one;have HP1:=aB (hp1.of (r:=fun b=>W.heap.size+3<=b/\b<w1.heap.size) fun b hl hb=>⟨by rcases hb with hb|hb;exact hb.elim;have:=HZ0.o;omega,hl⟩);have HX2:=aB ((aW (w1.alloc (.cells zSt.toArray 54)) (.cells zQL.toArray 36) aa).trans (aN w1 _));have HY2:=aB (aV (w1.alloc (.cells zSt.toArray 54)) (.cells zQL.toArray 36) (k:=w1.heap.size+1) aa);have HB2:=aB (((Bl.refl w1).alloc (.cells zSt.toArray 54)).alloc (.cells zQL.toArray 36));have HZ1:=aB HF1.o.size;have HC:=aB hcase;clear hb1 hp1 hcase s0 s1 HF0;go_wp2_with (refine bA rfl rfl rfl rfl (sC g ts.length cap k1) HX2.o rfl rfl d2j rfl ?_)
 intro w2 hB2 hX2;have HY3:=aB ((hB2.same (w1.heap.size+1) aE).trans HY2.o);have HX3:=aB hX2;have HB3:=aB (HB2.o.but hB2 (aH _));clear hB2 hX2;go_wp2_with (refine bA rfl rfl rfl rfl (quC q si sj sw sg sh so) HY3.o rfl rfl tC HONE.o ?_)
 intro w3 hB3 hX3;have HY4:=aB hX3;have HX4:=aB ((hB3.same w1.heap.size aE).trans HX3.o);have HB4:=aB (HB3.o.but hB3 aE);have HF3:=aB (HF1.o.call HB4.o);have HP3:=aB (HP1.o.bl HB4.o);clear hB3 hX3 HY3 HX3 HB3 HX2 HY2 HB2 HF1 HP1;obtain⟨ai,ci,rfl,-⟩:=HP3.o.items.shape;obtain⟨aj,cj,rfl,-⟩:=HP3.o.joins.shape;obtain⟨ag,cg,rfl⟩:=HP3.o.group.shape;obtain⟨ao,co,rfl,-⟩:=HP3.o.orders.shape;have c1:w3.cell? ⟨w1.heap.size+1,1,none⟩=some (.slice ai q.items.length ci):=(aG HY4.o 1).trans rfl;have c4:w3.cell? ⟨w1.heap.size+1,4,none⟩=some (.slice aj q.joins.length cj):=(aG HY4.o 4).trans rfl;have c13:w3.cell? ⟨w1.heap.size+1,13,none⟩=some (.slice ag q.group.length cg):=(aG HY4.o 13).trans rfl;have c22:w3.cell? ⟨w1.heap.size+1,22,none⟩=some (.slice ao q.orders.length co):=(aG HY4.o 22).trans rfl;rcases HC.o with⟨rfl,hr⟩|⟨hc,hr⟩
 rotate_left
 ·as_aux_lemma=>
  have HE9:=aB (show R= .bad c from by rw[HR.o,e0s,hr];rfl);have HC9:=aB hc;have hc0:¬c=0:=aE;have hcb:(c==0)=false:=ap;have hcb':(c != 0)=true:=ap;clear hr hc HC c1 c4 c13 c22;obtain⟨s0,s1,-,-,-⟩:=aU HF3.o.s
  go_upto_region 5 with fail
  go_wp2_with (refine bA rfl rfl rfl rfl (sC g ts.length cap k) HF3.o.r rfl rfl d2j rfl ?_)
  intro w8 hB8 hX8;have HF8:=aB (HF3.o.putR hB8 hX8);clear hB8 hX8 s0 s1;go_wp2_with (refine bA rfl rfl rfl rfl zQL HF8.o.x rfl rfl tC rfl ?_)
  intro w9 hB9 hX9;have HF9:=aB (HF8.o.putX hB9 hX9);clear hB9 hX9;go_wp2;refine bodyPost_ret (HF9.o.results rfl rfl rfl rfl underlying36 rfl tC) rfl ?_;refine⟨HF9.o.bl,k,d3z,d2i,d2i,d2i,d2i,d2i,d2i,c,HK.o,?_,⟨.nil _ _ _ _,.nil _ _ _ _,.nil _ _ _ _,.nil _ _ _ _,.nil _ _ _ _,.nil _ _ _ _⟩,.inr ⟨?_,HE9.o,rfl,rfl⟩⟩
  ·rfl
  ·first |exact HC9.o|exact .inr (.inr rfl)
 have HRM:=aB (show R=d3d k1 q from by rw[HR.o,e0s,hr];rfl);clear hr HC;by_cases hm:d7t q=true
 ·as_aux_lemma=>
  have HE9:=aB (show R= .bad 270 from by rw[HRM.o];unfold d3d;rw[if_pos hm]);have HC9:Hid ((270:Int)=260\/(270:Int)=261\/(270:Int)=270):= .inr (.inr rfl);unfold d7t at hm;simp only[jO,decide_eq_true_eq] at hm;by_cases h1:32<(q.items.length:Int)
  ·skip
   obtain⟨s0,s1,-,-,-⟩:=aU HF3.o.s
   go_upto_region 5 with fail
   go_wp2_with (refine bA rfl rfl rfl rfl (sC g ts.length cap k) HF3.o.r rfl rfl d2j rfl ?_)
   intro w8 hB8 hX8;have HF8:=aB (HF3.o.putR hB8 hX8);clear hB8 hX8 s0 s1;go_wp2_with (refine bA rfl rfl rfl rfl zQL HF8.o.x rfl rfl tC rfl ?_)
   intro w9 hB9 hX9;have HF9:=aB (HF8.o.putX hB9 hX9);clear hB9 hX9;go_wp2;refine bodyPost_ret (HF9.o.results rfl rfl rfl rfl underlying36 rfl tC) rfl ?_;refine⟨HF9.o.bl,k,d3z,d2i,d2i,d2i,d2i,d2i,d2i,270,HK.o,?_,⟨.nil _ _ _ _,.nil _ _ _ _,.nil _ _ _ _,.nil _ _ _ _,.nil _ _ _ _,.nil _ _ _ _⟩,.inr ⟨?_,HE9.o,rfl,rfl⟩⟩
   ·rfl
   ·first |exact HC9.o|exact .inr (.inr rfl)
  by_cases h2:4<(q.joins.length:Int)
  ·skip
   obtain⟨s0,s1,-,-,-⟩:=aU HF3.o.s
   go_upto_region 5 with fail
   go_wp2_with (refine bA rfl rfl rfl rfl (sC g ts.length cap k) HF3.o.r rfl rfl d2j rfl ?_)
   intro w8 hB8 hX8;have HF8:=aB (HF3.o.putR hB8 hX8);clear hB8 hX8 s0 s1;go_wp2_with (refine bA rfl rfl rfl rfl zQL HF8.o.x rfl rfl tC rfl ?_)
   intro w9 hB9 hX9;have HF9:=aB (HF8.o.putX hB9 hX9);clear hB9 hX9;go_wp2;refine bodyPost_ret (HF9.o.results rfl rfl rfl rfl underlying36 rfl tC) rfl ?_;refine⟨HF9.o.bl,k,d3z,d2i,d2i,d2i,d2i,d2i,d2i,270,HK.o,?_,⟨.nil _ _ _ _,.nil _ _ _ _,.nil _ _ _ _,.nil _ _ _ _,.nil _ _ _ _,.nil _ _ _ _⟩,.inr ⟨?_,HE9.o,rfl,rfl⟩⟩
   ·rfl
   ·first |exact HC9.o|exact .inr (.inr rfl)
  by_cases h3:8<(q.group.length:Int)
  ·skip
   obtain⟨s0,s1,-,-,-⟩:=aU HF3.o.s
   go_upto_region 5 with fail
   go_wp2_with (refine bA rfl rfl rfl rfl (sC g ts.length cap k) HF3.o.r rfl rfl d2j rfl ?_)
   intro w8 hB8 hX8;have HF8:=aB (HF3.o.putR hB8 hX8);clear hB8 hX8 s0 s1;go_wp2_with (refine bA rfl rfl rfl rfl zQL HF8.o.x rfl rfl tC rfl ?_)
   intro w9 hB9 hX9;have HF9:=aB (HF8.o.putX hB9 hX9);clear hB9 hX9;go_wp2;refine bodyPost_ret (HF9.o.results rfl rfl rfl rfl underlying36 rfl tC) rfl ?_;refine⟨HF9.o.bl,k,d3z,d2i,d2i,d2i,d2i,d2i,d2i,270,HK.o,?_,⟨.nil _ _ _ _,.nil _ _ _ _,.nil _ _ _ _,.nil _ _ _ _,.nil _ _ _ _,.nil _ _ _ _⟩,.inr ⟨?_,HE9.o,rfl,rfl⟩⟩
   ·rfl
   ·first |exact HC9.o|exact .inr (.inr rfl)
  have h4:8<(q.orders.length:Int):=aE;obtain⟨s0,s1,-,-,-⟩:=aU HF3.o.s
  go_upto_region 5 with fail
  go_wp2_with (refine bA rfl rfl rfl rfl (sC g ts.length cap k) HF3.o.r rfl rfl d2j rfl ?_)
  intro w8 hB8 hX8;have HF8:=aB (HF3.o.putR hB8 hX8);clear hB8 hX8 s0 s1;go_wp2_with (refine bA rfl rfl rfl rfl zQL HF8.o.x rfl rfl tC rfl ?_)
  intro w9 hB9 hX9;have HF9:=aB (HF8.o.putX hB9 hX9);clear hB9 hX9;go_wp2;refine bodyPost_ret (HF9.o.results rfl rfl rfl rfl underlying36 rfl tC) rfl ?_;refine⟨HF9.o.bl,k,d3z,d2i,d2i,d2i,d2i,d2i,d2i,270,HK.o,?_,⟨.nil _ _ _ _,.nil _ _ _ _,.nil _ _ _ _,.nil _ _ _ _,.nil _ _ _ _,.nil _ _ _ _⟩,.inr ⟨?_,HE9.o,rfl,rfl⟩⟩
  ·rfl
  ·first |exact HC9.o|exact .inr (.inr rfl)
 ·as_aux_lemma=>
  have HE9:=aB (show R= .good k1 q from by rw[HRM.o];unfold d3d;rw[if_neg hm]);unfold d7t at hm;simp only[jO,decide_eq_true_eq] at hm;have h1:¬32<(q.items.length:Int):=aE;have h2:¬4<(q.joins.length:Int):=aE;have h3:¬8<(q.group.length:Int):=aE;have h4:¬8<(q.orders.length:Int):=aE;clear hm;go_wp2_with fail;refine wp_region_noPanic (bM (fun B=>B.heap[w1.heap.size]?=some (.cells (sC g ts.length cap k1).toArray 54 (0,0))/\B.heap[w1.heap.size+1]?=some (.cells (quC q (.slice ai q.items.length ci) (.slice aj q.joins.length cj) sw (.slice ag q.group.length cg) sh (.slice ao q.orders.length co)).toArray 36 (0,0))) ((.take 0 (.take 1 (.one 2 (.one 3 (.take 4 .done)))))) ab ab ab (fun _ _ _ _ _ h=>h) (eB ⟨HX4.o,HY4.o⟩ ((Bl.refl _).drew)) ?_);intro wd HWD hY;refine aI rfl ae (fun w hSw=>eD rfl rfl hSw.1 underlying54 rfl d2j) ?_;(try simp only[aK,aA,aD,aF])
  refine aI rfl ae (fun w hSw=>eD rfl rfl hSw.2 underlying36 rfl tC) ?_;(try simp only[aK,aA,aD,aF])
  refine aL rfl (fun K hK=>?_);rw[if_pos ae];refine bC rfl rfl rfl (sC g ts.length cap k1) (HF3.o.call HWD.o).r rfl rfl d2j rfl ?_;intro w8 hB8 hX8;refine hK.o _ _ (pV hY hB8 (by have:=HZ1.o;omega) (by have:=HZ1.o;omega)) ?_;clear hY hK K;intro hY;(try simp only[aK])
  refine aL rfl (fun K hK=>?_);rw[if_pos ae];refine bC rfl rfl rfl (quC q (.slice ai q.items.length ci) (.slice aj q.joins.length cj) sw (.slice ag q.group.length cg) sh (.slice ao q.orders.length co)) ((HF3.o.call HWD.o).putR hB8 hX8).x rfl rfl tC HONE.o ?_;intro w9 hB9 hX9;refine hK.o _ _ (pV hY hB9 (by have:=HZ1.o;omega) (by have:=HZ1.o;omega)) ?_;clear hY hK K;intro hY;(try simp only[aK])
  refine cT ?_;refine fO (bF ?_);have HF9:=aB (((HF3.o.call HWD.o).putR hB8 hX8).putX hB9 hX9);have HP9:=aB ((((HP3.o.bl HWD.o).but hB8 (fun i hi=>by omega)).but hB9 (fun i hi=>by omega)).of (r:=fun b=>W.heap.size<=b) fun b _ hb=>by omega);clear hB8 hX8 hB9 hX9;go_wp2;refine bodyPost_ret (HF9.o.results rfl rfl rfl rfl underlying36 rfl tC) rfl ?_;refine⟨HF9.o.bl,k1,q,_,_,_,_,_,_,0,hk1,?_,HP9.o,.inl ⟨rfl,HE9.o⟩⟩;rfl
end
section
end
section
theorem e2s{W:World}{g cap k:Nat}{ts:List Tok}(h:Row W g ts)(hT:lC ts)(hfew:ts.length<=100000)(hk:k<ts.length):eu 20 #[RS g ts.length cap k] W (e5u g cap ts k W (d5c ts k)):=
 e2r hk fun _ hb=>e2q (h.bl hb) hT hfew hk fun _ _ q si sj sw p hr hk h1 h2 h3 h4 hp=>d9v hr hT hfew hk q si sj sw p h1 h2 h3 h4 hp
end
end Go.Proofs.YtfkekkgfmhcanaaGreatDoor
