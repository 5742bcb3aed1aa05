/- Texts SK. -/
import Derived.Test.YtohlomdapelgeaaGreatDoorDB
import Derived.Test.YtohlomdapelgeaaGreatDoorCM
namespace Go.Proofs.YtohlomdapelgeaaGreatDoor
open _root_.Go.Proofs.Tryz
open Go.RowKit
open _root_.Go.Act renaming put->aK
open _root_.Go.Lib renaming cell_of_heap->aG,hid->aB
open _root_.List renaming length_append->bD,map_append->kW,mem_append->iX,mem_singleton->gQ,setIfInBounds_toArray->aA,set_cons_succ->aF,set_cons_zero->aD
open _root_.Nat renaming le_refl->aH,le_trans->jH
open _root_.Option renaming map_some->lX
open _root_.Go.World renaming ownsRow_nil->d2l,size_alloc->aR
set_option maxRecDepth 100000
set_option maxHeartbeats 8000000
section
section
variable {P:Program}
theorem wp_sliceZ{o:Oper}{a:Act}{w:World}{K:Act->World->Prop}{Q:Exit->Act->World->Prop}{t e:TypeId}{y:Operand}(ho:o.op= .buildSlice t 1 #[(0,y)])(ht:P.underlying t=some (.slice e)){vs:List Value}(hy:(a.eval y).cells=vs.toArray)
  (hi:(P.info? e).map (fun i=>(i.zero.isSome,i.size))=some (true,vs.length)) (h0:decide (0<vs.length/\vs.length<=1000)=true) (h:K (a.put o.dst (.slice (some ⟨w.heap.size,0,none⟩) 1 1)) (w.alloc (.cells vs.toArray e))):Oper.wp P o a w K Q:=by
 obtain⟨i,hi,z,hz,hs⟩:∃i,P.info? e=some i/\∃z,i.zero=some z/\i.size=vs.length:=by
  cases hq:P.info? e with
  |none=>rw[hq] at hi;cases hi
  |some i=>
   rw[hq] at hi;simp only[lX,Option.some.injEq,Prod.mk.injEq] at hi;obtain⟨z,hz⟩:=Option.isSome_iff_exists.1 hi.1;exact⟨i,rfl,z,hz,hi.2⟩
 have h0':=of_decide_eq_true h0;unfold Oper.wp execOp;simp only[ho,Instr.buildSlice];have hne:vs≠[]:=fun e=>(by rw[e] at h0';exact absurd h0'.1 ae);simp[run_underlying ht,sizeOf,typeInfo,zeroValue,hi,hz,hs,newRow];rw[if_neg aE,if_neg hne,e0y hy rfl aa];simp[newObj];exact h
end
theorem whenFull:(prog.info? 87).map (fun i=>(i.zero,i.size,i.bytes))=some (some (.agg #[.bool false,.int .i64 0,.int .i64 0,.int .i64 0,S [],S [],S [],.int .i64 0,.slice none 0 0,.int .i64 0,.slice none 0 0,.slice none 0 0,.slice none 0 0]),13,192):=by kernel_rfl
theorem whenSome:(prog.info? 87).map (fun i=>(i.zero.isSome,i.size))=some (true,13):=by kernel_rfl
theorem slWhenInfo:(prog.info? 44).map (·.size)=some 1:=by kernel_rfl
abbrev merW(into u:So)(x:Ex)(l:List Wn):Wr:=⟨4,into,[],[],false,d3z,[],0,[],zeroE,u,x,l,[]⟩
abbrev merS(son sv:Value):SlW:=⟨.slice none 0 0,.slice none 0 0,.slice none 0 0,.slice none 0 0,.slice none 0 0,.slice none 0 0,.slice none 0 0,.slice none 0 0,.slice none 0 0,.slice none 0 0,.slice none 0 0,son,sv,.slice none 0 0⟩
theorem cellW51{A:World}{bw:Nat}{w:Wr}{s:SlW}(h:HeapW A bw w s):A.cell? ⟨bw,51,none⟩=some s.whens:=(aG h 51).trans rfl
structure FrM(bs bw N:Nat)(into u:So)(xx:Ex)(son sv:Value)(acc:List (Wn×List Value))(A B:World):Prop where
 two:Two bs bw A B
 r:B.heap[A.heap.size]?=some (.cells #[.pointer (some ⟨bs,0,none⟩)] 122 (0,0))
 x:HeapW B bw (merW into u xx (acc.map (·.1))) (merS son sv)
 on:bG (fun b=>bw<b/\b<N) B son xx.args
 o:B.ownsRow N 87 13 sv acc.length (rowG acc)
 t:∀q∈acc,gWn.lies (apartG (bw+1) B sv) B q.1 q.2
 z:N<=B.heap.size
 y:A.heap.size<N
section
variable {bs bw N:Nat} {into u:So} {xx:Ex} {son sv v':Value} {acc:List (Wn×List Value)} {A B C D:World}
theorem FrM.next(h:FrM bs bw N into u xx son sv acc A B)(h1:bs<bw)(h2:bw<A.heap.size)(hg:B.grownBy C (some bs)):FrM bs bw N into u xx son sv acc A C:=
 have hy:=h.y;have hz:=h.z
 ⟨h.two.next hg,(hg.block _ aE (fun e=>by injection e with e;omega)).trans h.r,(hg.block _ aE (fun e=>by injection e with e;omega)).trans h.x,
  h.on.keep (fun _ h=>h) fun b hb hl=>hg.block b hl (fun e=>by injection e with e;omega),pO h.o hg aE,fun q hq=>lies_grown (h.t q hq) hg aE,jH hz hg.4,hy⟩
theorem FrM.put(h:FrM bs bw N into u xx son sv acc A B)(h2:bw<A.heap.size){y:Wn}{cs:List Value}(hl:gWn.lies (apartG (bw+1) B sv) B y cs)(ho:C.ownsRow N 87 13 v' (acc.length+1) (rowG acc++cs))(hg:B.grownBy C sv.ownBlock)
  (hat:v'.ownBlock=sv.ownBlock\/v'.ownBlock=some B.heap.size) (hb:But bw C D) (hx:HeapW D bw (merW into u xx (acc.map (·.1)++[y])) (merS son v')):FrM bs bw N into u xx son v' (acc++[(y,cs)]) A D:=by
 have hy:=h.y;have hz:=h.z;have hlow:=h.o.lt;have hkeep:∀{y:Wn} {cs:List Value},gWn.lies (apartG (bw+1) B sv) B y cs->gWn.lies (apartG (bw+1) D v') D y cs:=fun h=>gWn.keep dk (fun b _ hp=>⟨hp.1,by rw[hb.size];exact hp.2.1,hp.2.2⟩) (fun b hp _=>hb.same b (by have:=hp.1;omega)) (lies_own h hg hat);refine⟨(h.two.own hg (fun j e=>by have:=(hlow j e).1;omega)).but hb,(hb.same _ aE).trans ((hg.block _ aE (fun e=>by have:=(hlow _ e.symm).1;omega)).trans h.r),by rw[kW];exact hx,
  h.on.keep (fun _ h=>h) fun b hp hl=>(hb.same b aE).trans (hg.block b hl (fun e=>by have:=(hlow _ e.symm).1;omega)),?_,?_,by rw[hb.size];exact jH hz hg.4,hy⟩
 ·have e1:rowG (acc++[(y,cs)])=rowG acc++cs:=by simp[rowG]
  rw[bD,e1];refine d8t ho hb (fun e=>?_);rcases hat with h|h
  ·rw[h] at e;have:=(hlow _ e.symm).1;omega
  ·rw[h] at e;injection e with e;omega
 ·intro q hq;rcases iX.1 hq with hq|hq
  ·exact hkeep (h.t q hq)
  ·obtain rfl:=gQ.1 hq;exact hkeep hl
theorem FrM.parts(h:FrM bs bw N into u xx son sv acc A B)(h2:bw<A.heap.size):PartsW (fun b=>bw<b) B (merW into u xx (acc.map (·.1))) (merS son sv):=
 have hp:=parts_zeroW (fun b=>bw<b) B;have hy:=h.y
 ⟨hp.cols,hp.rows,hp.query,hp.conf,hp.sets,hp.wher,h.on.of fun b _ hb=>hb.1,rows_ownG (F:=gWn) h.o (fun b hb _ _=>by omega) (fun q hq=>gWn.keep (aH _) (fun b _ hb=>by have:=hb.1;omega) (fun _ _ _=>rfl) (h.t q hq)),hp.ret⟩
end
def WhSt(ts:List Tok)(R:d2u (List Wn))(kk:Nat)(acc:List Wn):Prop:=∃f,ts.length<=f+kk/\R=whensR ts f kk acc
def BeSt(ts:List Tok)(R:d2u (List Wn))(k1:Nat)(acc:List Wn):Prop:=(∀k2,bH ts k1 [wWhen]=some k2->k1<k2->WhSt ts R k2 acc)/\(bH ts k1 [wWhen]=none->R= .good k1 acc)
theorem WhSt.step{ts:List Tok}{R:d2u (List Wn)}{kk:Nat}{acc:List Wn}(h:WhSt ts R kk acc)(hk:kk<ts.length)(hp:∀k1 x,whenR ts kk= .good k1 x->kk<k1):
  (∀c,whenR ts kk= .bad c->R= .bad c)/\∀k1 x,whenR ts kk= .good k1 x->BeSt ts R k1 (acc++[x]):=by
 obtain⟨f,hf,rfl⟩:=h;obtain⟨f,rfl⟩:∃g,f=g+1:=⟨f-1,by omega⟩
 refine⟨fun c hc=>by simp only[whensR,hc,d2u.bind],fun k1 x h1=>⟨fun k2 h2 hlt=>⟨f,by have:=hp k1 x h1;omega,by simp only[whensR,h1,d2u.bind,h2]⟩,fun h2=>by simp only[whensR,h1,d2u.bind,h2]⟩⟩
theorem zmerge_any{A:World}{bs bw g cap k:Nat}{ts:List Tok}(into:So)(h:iV A bs g cap ts k)(hT:lC ts)(hbw1:bs<bw)(hbw2:g<bw)(hbw3:bw<A.heap.size)(hx:HeapW A bw (begW 4 into) nilW):
  eg 134 #[RV bs,.pointer (some ⟨bw,0,none⟩)] A (BodyP bs bw g cap ts A (mergeR ts into k)):=by
 obtain⟨R,HR⟩:∃R,Hid (R=mergeR ts into k):=⟨_,rfl⟩
 rw[<-HR.o];have H:=aB h;have hgl:=h.gl;have HTK:=aB hT;have HF0:=aB (FrW.start (bs:=bs) hbw3 hx (parts_begW (fun b=>bw<b) A 4 into));have HS0:=aB (h.bl ((Bl.refl A).alloc (.cells #[.pointer (some ⟨bs,0,none⟩)] 122)));have hz0:=HF0.o.size;clear h hT hx;go_enter func134,ntmps134;go_wp2_with fail;refine(zneed_any HS0.o [wUsing] _ 1 _ _ rfl rfl aa aa).mono ?_;intro e w1 hp;obtain⟨hg1,k1,hs1,hcase⟩:=hp;have HF1:=aB (HF0.o.next hbw1 hbw3 hg1);have HS1:=aB hs1;clear hg1 hs1;rcases hcase with⟨_,v,hr,rfl,rfl⟩|⟨c,hc,hr,rfl⟩
 rotate_left
 ·have HB:=aB ((HR).o.trans (d2u.bind_bad hr));clear hr;go_wp2;exact⟨rfl,BodyP.no (HF1).o.two (HS1).o hc HB.o⟩
 have HE1:=aB (HR.o.trans (d2u.bind_yes hr));have a0:=cK HF1.o.r;have hz1:=HF1.o.size;clear hr;go_wp2_with fail;refine(zsource_any HS1.o).mono ?_;intro e w2 hp;obtain⟨hg2,k2,hs2,hcase⟩:=hp;have HF2:=aB (HF1.o.next hbw1 hbw3 hg2);have HS2:=aB hs2;clear hg2 hs2 a0;rcases hcase with⟨u,v,hr,rfl,rfl⟩|⟨c,hc,hr,rfl⟩
 rotate_left
 ·have HB:=aB ((HE1).o.trans (d2u.bind_bad hr));clear hr;go_wp2;exact⟨rfl,BodyP.no (HF2).o.two (HS2).o hc HB.o⟩
 have HE2:=aB (HE1.o.trans (d2u.bind_yes hr));have HP2:=aB (show PartsW (fun b=>bw<b) w2 (merW into u zeroE []) (merS (.slice none 0 0) (.slice none 0 0)) from{HF2.o.p with});clear hr;go_wp2_with (refine bA (g:=bw) (i:=41) rfl rfl rfl rfl (cellsW (merW into u zeroE []) (merS (.slice none 0 0) (.slice none 0 0))) HF2.o.x rfl rfl d7e rfl ?_)
 intro w3 hB3 hX3;have HF3:=aB (HF2.o.but hbw3 hB3 hX3 HP2.o);have HS3:=aB (HS2.o.but hB3 aE aE);clear hB3 hX3;have a0:=cK HF3.o.r;have hz3:=HF3.o.size;go_wp2_with fail;refine(zneed_any HS3.o [wOn] _ 1 _ _ rfl rfl aa aa).mono ?_;intro e w4 hp;obtain⟨hg4,k4,hs4,hcase⟩:=hp;have HF4:=aB (HF3.o.next hbw1 hbw3 hg4);have HS4:=aB hs4;clear hg4 hs4 a0;rcases hcase with⟨_,v,hr,rfl,rfl⟩|⟨c,hc,hr,rfl⟩
 rotate_left
 ·have HB:=aB ((HE2).o.trans (d2u.bind_bad hr));clear hr;go_wp2;exact⟨rfl,BodyP.no (HF4).o.two (HS4).o hc HB.o⟩
 have HE4:=aB (HE2.o.trans (d2u.bind_yes hr));have a0:=cK HF4.o.r;have hz4:=HF4.o.size;clear hr;go_wp2_with fail;refine(zexpr_any HS4.o HTK.o).mono ?_;intro e w5 hp;obtain⟨hg5,k5,hs5,hcase⟩:=hp.openE;have HF5:=aB (HF4.o.next hbw1 hbw3 hg5);have HS5:=aB hs5;clear hp hg5 hs5 a0;rcases hcase with⟨xk,x1,x2,x3,xt,xn,xo,xa,asv,csv,hr,hA,rfl⟩|⟨c,hc,hr,rfl⟩
 rotate_left
 ·have HB:=aB ((HE4).o.trans (d2u.bind_bad hr));clear hr;go_wp2;exact⟨rfl,BodyP.no (HF5).o.two (HS5).o hc HB.o⟩
 have HE5:=aB (HE4.o.trans (d2u.bind_yes hr));have HA5:=aB (show bG (fun b=>bw<b/\b<w5.heap.size) w5 (.slice asv xa.length csv) xa from hA.of fun b hl (hb:_<=b)=>by omega);have HP5:=aB (show PartsW (fun b=>bw<b) w5 (merW into u (.mk xk (x1,x2,x3) xt xn xo xa) []) (merS (.slice asv xa.length csv) (.slice none 0 0)) from{HF5.o.p with on:=hA.of fun b _ (hb:_<=b)=>by omega});clear hr hA;go_wp2_with (refine bA (g:=bw) (i:=43) rfl rfl rfl rfl (cellsW (merW into u (.mk xk (x1,x2,x3) xt xn xo xa) []) (merS (.slice asv xa.length csv) (.slice none 0 0))) HF5.o.x rfl rfl d4b rfl ?_)
 intro w6 hB6 hX6;have HF6:=aB (HF5.o.but hbw3 hB6 hX6 HP5.o);have HS6:=aB (HS5.o.but hB6 aE aE);have HA6:=aB (HA5.o.but hB6 fun i hi=>by omega);have hz5:w5.heap.size<=w6.heap.size:=Nat.le_of_eq hB6.size.symm;clear hB6 hX6;have a0:=cK HF6.o.r;have hz6:=HF6.o.size;obtain⟨N,hN⟩:∃N,Hid (w5.heap.size=N):=⟨_,rfl⟩
 rw[hN.o] at HA6 hz5;have hy5:A.heap.size<N:=(by rw[<-hN.o];exact HF5.o.size);go_wp2_with fail;refine(zneed_any HS6.o [wWhen] _ 1 _ _ rfl rfl aa aa).mono ?_;intro e w7 hp;obtain⟨hg7,k7,hs7,hcase⟩:=hp;have HF7:=aB (HF6.o.next hbw1 hbw3 hg7);have HS7:=aB hs7;have HA7:=aB (HA6.o.keep (fun _ h=>h) fun b hb hl=>hg7.block b hl (fun e=>by injection e with e;omega));have hz7:=hg7.4;clear hg7 hs7 a0;rcases hcase with⟨_,v,hr,rfl,rfl⟩|⟨c,hc,hr,rfl⟩
 rotate_left
 ·have HB:=aB ((HE5).o.trans (d2u.bind_bad hr));clear hr;go_wp2;exact⟨rfl,BodyP.no (HF7).o.two (HS7).o hc HB.o⟩
 have HE7:=aB (HE5.o.trans (d2u.bind_yes hr));obtain⟨RW,HRW⟩:∃RW,Hid (RW=whensR ts ts.length k7 []):=⟨_,rfl⟩
 have HEQ:=aB (show R=RW.bind fun k6 l=> .good k6 (merW into u (.mk xk (x1,x2,x3) xt xn xo xa) l) from by rw[HRW.o];exact HE7.o);have HW7:=aB (show WhSt ts RW k7 [] from⟨_,Nat.le_add_right _ _,HRW.o⟩);have HM0:=aB (show FrM bs bw N into u (.mk xk (x1,x2,x3) xt xn xo xa) (.slice asv xa.length csv) (.slice none 0 0) [] A w7 from⟨HF7.o.two,HF7.o.r,HF7.o.x,HA7.o,d2l _ _ _ _,fun q hq=>(by cases hq),by omega,by omega⟩);clear hr HE1 HE2 HE4 HE5 HE7 HF0 HF1 HF2 HF3 HF4 HF5 HF6 HF7 HS0 HS1 HS2 HS3 HS4 HS5 HS6 HP2 HP5 HA5 HA6 HA7
 go_upto_region 6 with fail
 go_cut [] from 23 to 33 (fun wc=>∃(kk:Nat) (acc:List (Wn×List Value)) (sv:Value),acc.length<=kk/\Hid (FrM bs bw N into u (.mk xk (x1,x2,x3) xt xn xo xa) (.slice asv xa.length csv) sv acc A wc)/\Hid (iV wc bs g cap ts kk)/\Hid (BeSt ts RW kk (acc.map (·.1))))
 case first=>
  have HSTP:=aB ((HW7).o.step (HS7).o.lt fun k1 x h=>(whenR_past HTK.o (HS7).o.lt h).1);have HPA:Hid (∀k1 x,whenR ts (k7)= .good k1 x->k7<k1/\k1<ts.length):=aB (fun k1 x h=>whenR_past HTK.o (HS7).o.lt h);have hlow:=aB (HM0).o.o.lt;have hfew:=(HS7).o.few;have hkk:=(HS7).o.lt;have hzr:=(HM0).o.z;have hyr:=(HM0).o.y;refine(bM (fun B=>B.heap[A.heap.size]?=some (.cells #[.pointer (some ⟨bs,0,none⟩)] 122 (0,0))) ((.take 0 (.take 1 (.take 2 (.take 3 (.take 5 (.two 4 6 (.one 6 (.one 7 (.one 8 (.take 9 (.take 10 (.one 11 .done)))))) (.two 4 7 (.one 7 (.one 8 (.take 9 (.take 10 (.one 11 .done))))) (.one 4 (.one 8 (.take 9 (.take 10 (.one 11 .done))))))))))))) af af af (fun c a d v w h=>by cases d<;>exact h) (((((Bl.refl _).drew).block _ aE).trans (HM0).o.r)) ?_);intro wd HWD hY;have HMd:=aB ((HM0).o.next hbw1 hbw3 (gI HWD.o _));have HSd:=aB ((HS7).o.bl HWD.o);have hzd:=HWD.o.size;iterate 5 (refine cT ?_)
  refine sZ ?_ ?_
  focus
   try have a51:=cellW51 HMd.o.x
   try have b51:=cellW51 HM1.o.x
   try have c51:=cellW51 HM2.o.x
   refine aL rfl (fun K hK=>?_);go_simp;refine hK.o _ _ (hY) ?_;clear hY hK K;intro hY
   try clear a51
   try clear b51
   try clear c51
   refine aL rfl (fun K hK=>?_);go_simp;((refine(zwhen_any HSd.o HTK.o).mono ?_);intro e w1 hp;obtain⟨hg1,k1,hs1,hcase⟩:=hp;have HM1:=aB (HMd.o.next hbw1 hbw3 hg1);have HS1:=aB hs1;have hz1:=hg1.4;clear hg1 hs1;rcases hcase with⟨y,v,hr,⟨cs,hvc,hcs⟩,rfl⟩|⟨c,hc,hr,rfl⟩;rotate_left;(· have HB:=aB (HEQ.o.trans (d2u.bind_bad (HSTP.o.1 c hr)));clear hr;go_wp2;exact⟨rfl,BodyP.no HM1.o.two HS1.o hc HB.o⟩);have HVC:=aB hvc;have HCL:=aB (show cs.length=13 from gWn.len hcs);have HCO:=aB (gWn.one hcs);have HZ:=aB (show gWn.lies (apartG (bw+1) w1 (.slice none 0 0)) w1 y cs from gWn.keep (aH _) (fun b hl (hb:_<=b)=>⟨by omega,hl,fun e=>by have:=(hlow.o b e.symm).2;omega⟩) (fun _ _ _=>rfl) hcs);have hlt1:=HPA.o _ _ hr;have HG:=aB (HSTP.o.2 _ _ hr);clear hr hcs hvc);go_wp2_with fail;refine hK.o _ _ ((by first |exact HM1.o.r|exact(hb.same _ aE).trans hY)) ?_;clear hY hK K;intro hY;refine aL rfl (fun K hK=>?_);rw[if_pos ab];refine wp_sliceZ (vs:=cs) rfl underlying44 HVC.o cd bk ?_;have HM2:=aB (HM1.o.next hbw1 hbw3 (gI ((Bl.refl w1).alloc (.cells cs.toArray 87)) _));refine hK.o _ _ HM2.o.r ?_;clear hY hK K;intro hY;(try simp only[aK,aA,aD,aF])
   refine aL rfl (fun K hK=>?_);rw[if_pos ab];refine append_rowZ (.tmp 27) (.tmp 30) rfl whenFull underlying44 rfl ae ae N (.slice none 0 0) (([]:List (Wn×List Value))).length (rowG ([]:List (Wn×List Value))) rfl HM2.o.o w1.heap.size cs rfl (aN w1 _) HCL.o HCO.o cf am ?_;intro v' w6 hown6 hg6 hat;have HX6:=aB ((hg6.block bw am (fun e=>by have:=(hlow.o _ e.symm).1;omega)).trans HM2.o.x);have HR6:=aB ((hg6.block A.heap.size am (fun e=>by have:=(hlow.o _ e.symm).1;omega)).trans HM2.o.r);refine hK.o _ _ HR6.o ?_;clear hY hK K;intro hY;obtain⟨g6,c6,rfl⟩:=nG hown6;(try simp only[aK,aA,aD,aF])
   iterate 2 (refine cT ?_)
   refine aL rfl (fun K hK=>?_);rw[if_pos ab];refine bC rfl rfl rfl (cellsW (merW into u (.mk xk (x1,x2,x3) xt xn xo xa) ((([]:List (Wn×List Value))).map (·.1)++[y])) (merS (.slice asv xa.length csv) (.slice (some ⟨g6,0,none⟩) ((([]:List (Wn×List Value))).length+1) c6))) HX6.o rfl rfl slWhenInfo rfl ?_;intro w7 hB7 hX7;refine hK.o _ _ ((by first |exact HM1.o.r|exact(hB7.same _ aE).trans hY)) ?_;clear hY hK K;intro hY;(try simp only[aK])
   refine fO ?_;have HM7:=aB (HM2.o.put hbw3 (lies_bl HZ.o ((Bl.refl _).alloc _)) hown6 hg6 hat hB7 hX7);have HS7:=aB (((HS1.o.bl ((Bl.refl _).alloc (.cells cs.toArray 87))).keep (hg6.block _ am (fun e=>by have:=(hlow.o _ e.symm).1;omega)) (hg6.block _ am (fun e=>by have:=(hlow.o _ e.symm).1;omega))).but hB7 aE aE);clear hY hown6 hg6 hat hB7 hX7 HX6 HR6;go_wp2
   go_meet;case rel=>exact⟨k1,_,_,by simp;omega,HM7,HS7,HG⟩
  rotate_left 1
  focus
   refine aL rfl (fun K hK=>?_);go_simp;((refine(zwhen_any HSd.o HTK.o).mono ?_);intro e w1 hp;obtain⟨hg1,k1,hs1,hcase⟩:=hp;have HM1:=aB (HMd.o.next hbw1 hbw3 hg1);have HS1:=aB hs1;have hz1:=hg1.4;clear hg1 hs1;rcases hcase with⟨y,v,hr,⟨cs,hvc,hcs⟩,rfl⟩|⟨c,hc,hr,rfl⟩;rotate_left;(· have HB:=aB (HEQ.o.trans (d2u.bind_bad (HSTP.o.1 c hr)));clear hr;go_wp2;exact⟨rfl,BodyP.no HM1.o.two HS1.o hc HB.o⟩);have HVC:=aB hvc;have HCL:=aB (show cs.length=13 from gWn.len hcs);have HCO:=aB (gWn.one hcs);have HZ:=aB (show gWn.lies (apartG (bw+1) w1 (.slice none 0 0)) w1 y cs from gWn.keep (aH _) (fun b hl (hb:_<=b)=>⟨by omega,hl,fun e=>by have:=(hlow.o b e.symm).2;omega⟩) (fun _ _ _=>rfl) hcs);have hlt1:=HPA.o _ _ hr;have HG:=aB (HSTP.o.2 _ _ hr);clear hr hcs hvc);go_wp2_with fail;refine hK.o _ _ ((by first |exact HM1.o.r|exact(hb.same _ aE).trans hY)) ?_;clear hY hK K;intro hY;refine sZ ?_ ?_
   focus
    try have a51:=cellW51 HMd.o.x
    try have b51:=cellW51 HM1.o.x
    try have c51:=cellW51 HM2.o.x
    refine aL rfl (fun K hK=>?_);go_simp;refine hK.o _ _ (hY) ?_;clear hY hK K;intro hY
    try clear a51
    try clear b51
    try clear c51
    refine aL rfl (fun K hK=>?_);rw[if_pos ab];refine wp_sliceZ (vs:=cs) rfl underlying44 HVC.o cd bk ?_;have HM2:=aB (HM1.o.next hbw1 hbw3 (gI ((Bl.refl w1).alloc (.cells cs.toArray 87)) _));refine hK.o _ _ HM2.o.r ?_;clear hY hK K;intro hY;(try simp only[aK,aA,aD,aF])
    refine aL rfl (fun K hK=>?_);rw[if_pos ab];refine append_rowZ (.tmp 27) (.tmp 30) rfl whenFull underlying44 rfl ae ae N (.slice none 0 0) (([]:List (Wn×List Value))).length (rowG ([]:List (Wn×List Value))) rfl HM2.o.o w1.heap.size cs rfl (aN w1 _) HCL.o HCO.o cf am ?_;intro v' w6 hown6 hg6 hat;have HX6:=aB ((hg6.block bw am (fun e=>by have:=(hlow.o _ e.symm).1;omega)).trans HM2.o.x);have HR6:=aB ((hg6.block A.heap.size am (fun e=>by have:=(hlow.o _ e.symm).1;omega)).trans HM2.o.r);refine hK.o _ _ HR6.o ?_;clear hY hK K;intro hY;obtain⟨g6,c6,rfl⟩:=nG hown6;(try simp only[aK,aA,aD,aF])
    iterate 2 (refine cT ?_)
    refine aL rfl (fun K hK=>?_);rw[if_pos ab];refine bC rfl rfl rfl (cellsW (merW into u (.mk xk (x1,x2,x3) xt xn xo xa) ((([]:List (Wn×List Value))).map (·.1)++[y])) (merS (.slice asv xa.length csv) (.slice (some ⟨g6,0,none⟩) ((([]:List (Wn×List Value))).length+1) c6))) HX6.o rfl rfl slWhenInfo rfl ?_;intro w7 hB7 hX7;refine hK.o _ _ ((by first |exact HM1.o.r|exact(hB7.same _ aE).trans hY)) ?_;clear hY hK K;intro hY;(try simp only[aK])
    refine fO ?_;have HM7:=aB (HM2.o.put hbw3 (lies_bl HZ.o ((Bl.refl _).alloc _)) hown6 hg6 hat hB7 hX7);have HS7:=aB (((HS1.o.bl ((Bl.refl _).alloc (.cells cs.toArray 87))).keep (hg6.block _ am (fun e=>by have:=(hlow.o _ e.symm).1;omega)) (hg6.block _ am (fun e=>by have:=(hlow.o _ e.symm).1;omega))).but hB7 aE aE);clear hY hown6 hg6 hat hB7 hX7 HX6 HR6;go_wp2
    go_meet;case rel=>exact⟨k1,_,_,by simp;omega,HM7,HS7,HG⟩
   rotate_left 1
   focus
    refine aL rfl (fun K hK=>?_);rw[if_pos ab];refine wp_sliceZ (vs:=cs) rfl underlying44 HVC.o cd bk ?_;have HM2:=aB (HM1.o.next hbw1 hbw3 (gI ((Bl.refl w1).alloc (.cells cs.toArray 87)) _));refine hK.o _ _ HM2.o.r ?_;clear hY hK K;intro hY;(try simp only[aK,aA,aD,aF])
    try have a51:=cellW51 HMd.o.x
    try have b51:=cellW51 HM1.o.x
    try have c51:=cellW51 HM2.o.x
    refine aL rfl (fun K hK=>?_);go_simp;refine hK.o _ _ (hY) ?_;clear hY hK K;intro hY
    try clear a51
    try clear b51
    try clear c51
    refine aL rfl (fun K hK=>?_);rw[if_pos ab];refine append_rowZ (.tmp 27) (.tmp 30) rfl whenFull underlying44 rfl ae ae N (.slice none 0 0) (([]:List (Wn×List Value))).length (rowG ([]:List (Wn×List Value))) rfl HM2.o.o w1.heap.size cs rfl (aN w1 _) HCL.o HCO.o cf am ?_;intro v' w6 hown6 hg6 hat;have HX6:=aB ((hg6.block bw am (fun e=>by have:=(hlow.o _ e.symm).1;omega)).trans HM2.o.x);have HR6:=aB ((hg6.block A.heap.size am (fun e=>by have:=(hlow.o _ e.symm).1;omega)).trans HM2.o.r);refine hK.o _ _ HR6.o ?_;clear hY hK K;intro hY;obtain⟨g6,c6,rfl⟩:=nG hown6;(try simp only[aK,aA,aD,aF])
    iterate 2 (refine cT ?_)
    refine aL rfl (fun K hK=>?_);rw[if_pos ab];refine bC rfl rfl rfl (cellsW (merW into u (.mk xk (x1,x2,x3) xt xn xo xa) ((([]:List (Wn×List Value))).map (·.1)++[y])) (merS (.slice asv xa.length csv) (.slice (some ⟨g6,0,none⟩) ((([]:List (Wn×List Value))).length+1) c6))) HX6.o rfl rfl slWhenInfo rfl ?_;intro w7 hB7 hX7;refine hK.o _ _ ((by first |exact HM1.o.r|exact(hB7.same _ aE).trans hY)) ?_;clear hY hK K;intro hY;(try simp only[aK])
    refine fO ?_;have HM7:=aB (HM2.o.put hbw3 (lies_bl HZ.o ((Bl.refl _).alloc _)) hown6 hg6 hat hB7 hX7);have HS7:=aB (((HS1.o.bl ((Bl.refl _).alloc (.cells cs.toArray 87))).keep (hg6.block _ am (fun e=>by have:=(hlow.o _ e.symm).1;omega)) (hg6.block _ am (fun e=>by have:=(hlow.o _ e.symm).1;omega))).but hB7 aE aE);clear hY hown6 hg6 hat hB7 hX7 HX6 HR6;go_wp2
    go_meet;case rel=>exact⟨k1,_,_,by simp;omega,HM7,HS7,HG⟩
 case rest=>
  obtain⟨kk,acc,sv,hak,HM,HS,HB⟩:=hcut;clear HM0 HS7 HW7;go_wp2_with fail;go_loopw [] (fun wr=>∃(kk:Nat) (acc:List (Wn×List Value)) (sv:Value),acc.length<=kk/\Hid (FrM bs bw N into u (.mk xk (x1,x2,x3) xt xn xo xa) (.slice asv xa.length csv) sv acc A wr)/\Hid (iV wr bs g cap ts kk)/\Hid (BeSt ts RW kk (acc.map (·.1)))) (fun wr=>ts.length-tH wr bs)
  case atStart=>exact⟨kk,acc,sv,hak,HM,HS,HB⟩
  case round=>
   clear HM HS HB hak;obtain⟨kk,acc,sv,hak,HM,HS,HB⟩:=hrel;have hkk0:=HS.o.lt;have hfew0:=HS.o.few;have hzm:=HM.o.z;have a0:=cK HM.o.r;cases ht:bH ts kk [wWhen] with
   |none=>
    have HT:=aB ht;have HE:=aB (show R= .good kk (merW into u (.mk xk (x1,x2,x3) xt xn xo xa) (acc.map (·.1))) from by rw[HEQ.o,HB.o.2 ht];rfl);clear ht;go_wp2_with fail;refine(kM HS.o [wWhen] HT.o _ 1 _ _ rfl rfl aa aa).mono ?_;rintro e w9 ⟨rfl,hg9,hs9⟩;have HM9:=aB (HM.o.next hbw1 hbw3 hg9);have HS9:=aB hs9;clear hg9 hs9 a0;go_wp2;go_end0;exact BodyP.yes HM9.o.two HS9.o HE.o HM9.o.x (HM9.o.parts hbw3)
   |some k2=>
    have hk2:=kS HTK.o hkk0 ht;have HW9:=aB (HB.o.1 k2 ht hk2.1);have HT:=aB ht;clear ht;go_wp2_with fail;refine(jD HS.o [wWhen] HT.o _ 1 _ _ rfl rfl aa aa).mono ?_;rintro e w9 ⟨rfl,hg9,hs9⟩;have HM9:=aB (HM.o.next hbw1 hbw3 hg9);have HS9:=aB hs9;clear hg9 hs9 a0 hzm
    go_upto_region 8 with fail
    have HSTP:=aB ((HW9).o.step (HS9).o.lt fun k1 x h=>(whenR_past HTK.o (HS9).o.lt h).1);have HPA:Hid (∀k1 x,whenR ts (k2)= .good k1 x->k2<k1/\k1<ts.length):=aB (fun k1 x h=>whenR_past HTK.o (HS9).o.lt h);have hlow:=aB (HM9).o.o.lt;have hfew:=(HS9).o.few;have hkk:=(HS9).o.lt;have hzr:=(HM9).o.z;have hyr:=(HM9).o.y;refine(bM (fun B=>B.heap[A.heap.size]?=some (.cells #[.pointer (some ⟨bs,0,none⟩)] 122 (0,0))) ((.take 0 (.take 1 (.take 2 (.take 3 (.take 5 (.two 4 6 (.one 6 (.one 7 (.one 8 (.take 9 (.take 10 (.one 11 .done)))))) (.two 4 7 (.one 7 (.one 8 (.take 9 (.take 10 (.one 11 .done))))) (.one 4 (.one 8 (.take 9 (.take 10 (.one 11 .done))))))))))))) af af af (fun c a d v w h=>by cases d<;>exact h) (((((Bl.refl _).drew).block _ aE).trans (HM9).o.r)) ?_);intro wd HWD hY;have HMd:=aB ((HM9).o.next hbw1 hbw3 (gI HWD.o _));have HSd:=aB ((HS9).o.bl HWD.o);have hzd:=HWD.o.size;iterate 5 (refine cT ?_)
    refine sZ ?_ ?_
    focus
     try have a51:=cellW51 HMd.o.x
     try have b51:=cellW51 HM1.o.x
     try have c51:=cellW51 HM2.o.x
     refine aL rfl (fun K hK=>?_);go_simp;refine hK.o _ _ (hY) ?_;clear hY hK K;intro hY
     try clear a51
     try clear b51
     try clear c51
     refine aL rfl (fun K hK=>?_);go_simp;((refine(zwhen_any HSd.o HTK.o).mono ?_);intro e w1 hp;obtain⟨hg1,k1,hs1,hcase⟩:=hp;have HM1:=aB (HMd.o.next hbw1 hbw3 hg1);have HS1:=aB hs1;have hz1:=hg1.4;clear hg1 hs1;rcases hcase with⟨y,v,hr,⟨cs,hvc,hcs⟩,rfl⟩|⟨c,hc,hr,rfl⟩;rotate_left;(· have HB:=aB (HEQ.o.trans (d2u.bind_bad (HSTP.o.1 c hr)));clear hr;go_wp2;exact⟨rfl,BodyP.no HM1.o.two HS1.o hc HB.o⟩);have HVC:=aB hvc;have HCL:=aB (show cs.length=13 from gWn.len hcs);have HCO:=aB (gWn.one hcs);have HZ:=aB (show gWn.lies (apartG (bw+1) w1 (sv)) w1 y cs from gWn.keep (aH _) (fun b hl (hb:_<=b)=>⟨by omega,hl,fun e=>by have:=(hlow.o b e.symm).2;omega⟩) (fun _ _ _=>rfl) hcs);have hlt1:=HPA.o _ _ hr;have HG:=aB (HSTP.o.2 _ _ hr);clear hr hcs hvc);go_wp2_with fail;refine hK.o _ _ ((by first |exact HM1.o.r|exact(hb.same _ aE).trans hY)) ?_;clear hY hK K;intro hY;refine aL rfl (fun K hK=>?_);rw[if_pos ab];refine wp_sliceZ (vs:=cs) rfl underlying44 HVC.o cd bk ?_;have HM2:=aB (HM1.o.next hbw1 hbw3 (gI ((Bl.refl w1).alloc (.cells cs.toArray 87)) _));refine hK.o _ _ HM2.o.r ?_;clear hY hK K;intro hY;(try simp only[aK,aA,aD,aF])
     refine aL rfl (fun K hK=>?_);rw[if_pos ab];refine append_rowZ (.tmp 42) (.tmp 45) rfl whenFull underlying44 rfl ae ae N (sv) (acc).length (rowG acc) rfl HM2.o.o w1.heap.size cs rfl (aN w1 _) HCL.o HCO.o cf am ?_;intro v' w6 hown6 hg6 hat;have HX6:=aB ((hg6.block bw am (fun e=>by have:=(hlow.o _ e.symm).1;omega)).trans HM2.o.x);have HR6:=aB ((hg6.block A.heap.size am (fun e=>by have:=(hlow.o _ e.symm).1;omega)).trans HM2.o.r);refine hK.o _ _ HR6.o ?_;clear hY hK K;intro hY;obtain⟨g6,c6,rfl⟩:=nG hown6;(try simp only[aK,aA,aD,aF])
     iterate 2 (refine cT ?_)
     refine aL rfl (fun K hK=>?_);rw[if_pos ab];refine bC rfl rfl rfl (cellsW (merW into u (.mk xk (x1,x2,x3) xt xn xo xa) ((acc).map (·.1)++[y])) (merS (.slice asv xa.length csv) (.slice (some ⟨g6,0,none⟩) ((acc).length+1) c6))) HX6.o rfl rfl slWhenInfo rfl ?_;intro w7 hB7 hX7;refine hK.o _ _ ((by first |exact HM1.o.r|exact(hB7.same _ aE).trans hY)) ?_;clear hY hK K;intro hY;(try simp only[aK])
     refine fO ?_;have HM7:=aB (HM2.o.put hbw3 (lies_bl HZ.o ((Bl.refl _).alloc _)) hown6 hg6 hat hB7 hX7);have HS7:=aB (((HS1.o.bl ((Bl.refl _).alloc (.cells cs.toArray 87))).keep (hg6.block _ am (fun e=>by have:=(hlow.o _ e.symm).1;omega)) (hg6.block _ am (fun e=>by have:=(hlow.o _ e.symm).1;omega))).but hB7 aE aE);clear hY hown6 hg6 hat hB7 hX7 HX6 HR6;go_wp2;go_roundw;(case rel=>exact⟨k1,_,_,by simp;omega,HM7,HS7,by rw[kW];exact HG⟩);case measure=>have n1:=kY HS.o;have n2:=kY HS7.o;rw[n1,n2];omega
    rotate_left 1
    focus
     refine aL rfl (fun K hK=>?_);go_simp;((refine(zwhen_any HSd.o HTK.o).mono ?_);intro e w1 hp;obtain⟨hg1,k1,hs1,hcase⟩:=hp;have HM1:=aB (HMd.o.next hbw1 hbw3 hg1);have HS1:=aB hs1;have hz1:=hg1.4;clear hg1 hs1;rcases hcase with⟨y,v,hr,⟨cs,hvc,hcs⟩,rfl⟩|⟨c,hc,hr,rfl⟩;rotate_left;(· have HB:=aB (HEQ.o.trans (d2u.bind_bad (HSTP.o.1 c hr)));clear hr;go_wp2;exact⟨rfl,BodyP.no HM1.o.two HS1.o hc HB.o⟩);have HVC:=aB hvc;have HCL:=aB (show cs.length=13 from gWn.len hcs);have HCO:=aB (gWn.one hcs);have HZ:=aB (show gWn.lies (apartG (bw+1) w1 (sv)) w1 y cs from gWn.keep (aH _) (fun b hl (hb:_<=b)=>⟨by omega,hl,fun e=>by have:=(hlow.o b e.symm).2;omega⟩) (fun _ _ _=>rfl) hcs);have hlt1:=HPA.o _ _ hr;have HG:=aB (HSTP.o.2 _ _ hr);clear hr hcs hvc);go_wp2_with fail;refine hK.o _ _ ((by first |exact HM1.o.r|exact(hb.same _ aE).trans hY)) ?_;clear hY hK K;intro hY;refine sZ ?_ ?_
     focus
      try have a51:=cellW51 HMd.o.x
      try have b51:=cellW51 HM1.o.x
      try have c51:=cellW51 HM2.o.x
      refine aL rfl (fun K hK=>?_);go_simp;refine hK.o _ _ (hY) ?_;clear hY hK K;intro hY
      try clear a51
      try clear b51
      try clear c51
      refine aL rfl (fun K hK=>?_);rw[if_pos ab];refine wp_sliceZ (vs:=cs) rfl underlying44 HVC.o cd bk ?_;have HM2:=aB (HM1.o.next hbw1 hbw3 (gI ((Bl.refl w1).alloc (.cells cs.toArray 87)) _));refine hK.o _ _ HM2.o.r ?_;clear hY hK K;intro hY;(try simp only[aK,aA,aD,aF])
      refine aL rfl (fun K hK=>?_);rw[if_pos ab];refine append_rowZ (.tmp 42) (.tmp 45) rfl whenFull underlying44 rfl ae ae N (sv) (acc).length (rowG acc) rfl HM2.o.o w1.heap.size cs rfl (aN w1 _) HCL.o HCO.o cf am ?_;intro v' w6 hown6 hg6 hat;have HX6:=aB ((hg6.block bw am (fun e=>by have:=(hlow.o _ e.symm).1;omega)).trans HM2.o.x);have HR6:=aB ((hg6.block A.heap.size am (fun e=>by have:=(hlow.o _ e.symm).1;omega)).trans HM2.o.r);refine hK.o _ _ HR6.o ?_;clear hY hK K;intro hY;obtain⟨g6,c6,rfl⟩:=nG hown6;(try simp only[aK,aA,aD,aF])
      iterate 2 (refine cT ?_)
      refine aL rfl (fun K hK=>?_);rw[if_pos ab];refine bC rfl rfl rfl (cellsW (merW into u (.mk xk (x1,x2,x3) xt xn xo xa) ((acc).map (·.1)++[y])) (merS (.slice asv xa.length csv) (.slice (some ⟨g6,0,none⟩) ((acc).length+1) c6))) HX6.o rfl rfl slWhenInfo rfl ?_;intro w7 hB7 hX7;refine hK.o _ _ ((by first |exact HM1.o.r|exact(hB7.same _ aE).trans hY)) ?_;clear hY hK K;intro hY;(try simp only[aK])
      refine fO ?_;have HM7:=aB (HM2.o.put hbw3 (lies_bl HZ.o ((Bl.refl _).alloc _)) hown6 hg6 hat hB7 hX7);have HS7:=aB (((HS1.o.bl ((Bl.refl _).alloc (.cells cs.toArray 87))).keep (hg6.block _ am (fun e=>by have:=(hlow.o _ e.symm).1;omega)) (hg6.block _ am (fun e=>by have:=(hlow.o _ e.symm).1;omega))).but hB7 aE aE);clear hY hown6 hg6 hat hB7 hX7 HX6 HR6;go_wp2;go_roundw;(case rel=>exact⟨k1,_,_,by simp;omega,HM7,HS7,by rw[kW];exact HG⟩);case measure=>have n1:=kY HS.o;have n2:=kY HS7.o;rw[n1,n2];omega
     rotate_left 1
     focus
      refine aL rfl (fun K hK=>?_);rw[if_pos ab];refine wp_sliceZ (vs:=cs) rfl underlying44 HVC.o cd bk ?_;have HM2:=aB (HM1.o.next hbw1 hbw3 (gI ((Bl.refl w1).alloc (.cells cs.toArray 87)) _));refine hK.o _ _ HM2.o.r ?_;clear hY hK K;intro hY;(try simp only[aK,aA,aD,aF])
      try have a51:=cellW51 HMd.o.x
      try have b51:=cellW51 HM1.o.x
      try have c51:=cellW51 HM2.o.x
      refine aL rfl (fun K hK=>?_);go_simp;refine hK.o _ _ (hY) ?_;clear hY hK K;intro hY
      try clear a51
      try clear b51
      try clear c51
      refine aL rfl (fun K hK=>?_);rw[if_pos ab];refine append_rowZ (.tmp 42) (.tmp 45) rfl whenFull underlying44 rfl ae ae N (sv) (acc).length (rowG acc) rfl HM2.o.o w1.heap.size cs rfl (aN w1 _) HCL.o HCO.o cf am ?_;intro v' w6 hown6 hg6 hat;have HX6:=aB ((hg6.block bw am (fun e=>by have:=(hlow.o _ e.symm).1;omega)).trans HM2.o.x);have HR6:=aB ((hg6.block A.heap.size am (fun e=>by have:=(hlow.o _ e.symm).1;omega)).trans HM2.o.r);refine hK.o _ _ HR6.o ?_;clear hY hK K;intro hY;obtain⟨g6,c6,rfl⟩:=nG hown6;(try simp only[aK,aA,aD,aF])
      iterate 2 (refine cT ?_)
      refine aL rfl (fun K hK=>?_);rw[if_pos ab];refine bC rfl rfl rfl (cellsW (merW into u (.mk xk (x1,x2,x3) xt xn xo xa) ((acc).map (·.1)++[y])) (merS (.slice asv xa.length csv) (.slice (some ⟨g6,0,none⟩) ((acc).length+1) c6))) HX6.o rfl rfl slWhenInfo rfl ?_;intro w7 hB7 hX7;refine hK.o _ _ ((by first |exact HM1.o.r|exact(hB7.same _ aE).trans hY)) ?_;clear hY hK K;intro hY;(try simp only[aK])
      refine fO ?_;have HM7:=aB (HM2.o.put hbw3 (lies_bl HZ.o ((Bl.refl _).alloc _)) hown6 hg6 hat hB7 hX7);have HS7:=aB (((HS1.o.bl ((Bl.refl _).alloc (.cells cs.toArray 87))).keep (hg6.block _ am (fun e=>by have:=(hlow.o _ e.symm).1;omega)) (hg6.block _ am (fun e=>by have:=(hlow.o _ e.symm).1;omega))).but hB7 aE aE);clear hY hown6 hg6 hat hB7 hX7 HX6 HR6;go_wp2;go_roundw;(case rel=>exact⟨k1,_,_,by simp;omega,HM7,HS7,by rw[kW];exact HG⟩);case measure=>have n1:=kY HS.o;have n2:=kY HS7.o;rw[n1,n2];omega
end
end Go.Proofs.YtohlomdapelgeaaGreatDoor
