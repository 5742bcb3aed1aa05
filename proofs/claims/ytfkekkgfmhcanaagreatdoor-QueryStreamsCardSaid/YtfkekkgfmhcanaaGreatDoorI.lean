/- Texts MK YA YB QV. -/
import Derived.Test.YtfkekkgfmhcanaaGreatDoorD
import Derived.Test.YtfkekkgfmhcanaaGreatDoorC
import Derived.Test.YtfkekkgfmhcanaaGreatDoorH
import Derived.Test.YtfkekkgfmhcanaaGreatDoorB
import Derived.Maps.AppendAt
import Derived.Deep.CutBlock
import Derived.Test.YtfkekkgfmhcanaaGreatDoorE
import Derived.Test.YtfkekkgfmhcanaaGreatDoorG
namespace Go.Proofs.YtfkekkgfmhcanaaGreatDoor
open _root_.Go.Proofs.Tryz
open Go.RowKit
open Go.RowKit Go.Shelf
open _root_.Go.Act renaming put->aK
open _root_.Go.Addr renaming add->dY
open _root_.And renaming intro->bT
open _root_.Array renaming getElem?_eq_some_iff->aC,replicate_succ->eX,replicate_zero->eU
open _root_.Go.RowKit.Below renaming grown->iL,refl->bS
open _root_.Go.Lib renaming cell_of_heap->aG,frozen_of_heap->aJ,hid->aB
open _root_.List renaming append_toArray->fD,cons_append->bE,ext_getElem->kX,getD_cons_zero->nR,getElem?_eq_getElem->aP,length_append->bD,length_cons->aX,length_nil->bL,map_append->kW,map_cons->kP,map_nil->qZ,mem_append->iX,mem_of_getElem?->dJ,mem_singleton->gQ,nil_append->cB,push_toArray->gH,range->iU,setIfInBounds_toArray->aA,set_cons_succ->aF,set_cons_zero->aD,size_toArray->gG
open _root_.Nat renaming le_refl->aH,le_trans->jH,zero_le->dL
open NoPanic renaming normal->bF
open _root_.Go.Oper renaming semAt_some->nC
open _root_.Option renaming bind_some->bU
open _root_.Go.Value renaming ownBlock->iB
open _root_.Go.World renaming ownsRow_nil->d2l,size_alloc->aR
set_option maxRecDepth 100000
set_option maxHeartbeats 8000000
section
end
section
abbrev a5w:List (List UInt8):=[[108,101,110,103,116,104],[97,98,115],[99,111,97,108,101,115,99,101],[99,111,117,110,116],[115,117,109],[109,105,110],[109,97,120]]
theorem c8q(L:List (List UInt8))(nm:List UInt8):∃idx,idx<=L.length/\(∀i,i<idx->(L.getD i []==nm)=false)/\(idx<L.length->L.getD idx []=nm):=by
 induction L with
 |nil=>exact⟨0,aH _,fun i h=>by omega,fun h=>by simp at h⟩
 |cons x r ih=>
  by_cases h:x=nm
  ·exact⟨0,by omega,fun i h=>by omega,fun _=>by simpa using h⟩
  ·obtain⟨idx,h1,h2,h3⟩:=ih;refine⟨idx+1,by simp;omega,fun i hi=>?_,fun hi=>?_⟩
   ·match i with
    |0=>simpa using h
    |i+1=>simpa using h2 i aE
   ·simpa using h3 (by simp at hi;omega)
theorem c1x{nm:List UInt8}(h:∀i,i<7->(a5w.getD i []==nm)=false):tO nm=false:=by
 have h0:=h 0 aE;have h1:=h 1 aE;have h2:=h 2 aE;have h3:=h 3 aE;have h4:=h 4 aE;have h5:=h 5 aE;have h6:=h 6 aE;simp[a5w] at h0 h1 h2 h3 h4 h5 h6;simp[tO,qL,b8b,bZ,gP,gX,c1m,c1n,c1o,Ne.symm h0,Ne.symm h1,Ne.symm h2,Ne.symm h3,Ne.symm h4,Ne.symm h5,Ne.symm h6]
theorem b3r{a b:List UInt8}(h:(a==b)=false):(a != b)=true:=by simp[bne,h]
theorem c1l{i:Nat}(h:i<7):i=0\/i=1\/i=2\/i=3\/i=4\/i=5\/i=6:=by omega
theorem b8l{nm:List UInt8}{i:Nat}(hi:i<7)(h:a5w.getD i []=nm):tO nm=true:=by
 subst h;rcases c1l hi with rfl|rfl|rfl|rfl|rfl|rfl|rfl<;>decide
theorem FrR.turn{W A:World}{g n cap k:Nat}(h:FrR W A g n cap k)(k':Nat):FrR W (set2 A W.heap.size (.slice (some ⟨g,0,none⟩) n cap) (.int .i64 (k':Int))) g n cap k':=
 ⟨nE h.bl (aH _) _ _,kQ h.s _ _,(cO _ aE _ _).trans h.r,(cO _ aE _ _).trans h.x⟩
theorem FrR.grown{W A B:World}{g n cap k:Nat}{r:Option Nat}(h:FrR W A g n cap k)(hg:A.grownBy B r)(hr:∀j,r=some j->W.heap.size+3<=j):FrR W B g n cap k:=by
 have e:∀i,i<W.heap.size+3->B.heap[i]?=A.heap[i]?:=fun i hi=>hg.block i (by have:=h.size;omega) (fun e=>by have:=hr i e.symm;omega);refine⟨?_,(e _ aE).trans h.s,(e _ aE).trans h.r,(e _ aE).trans h.x⟩;exact iL h.bl hg (by have:=h.bl.size;omega) (fun j hj=>by have:=hr j hj;omega)
theorem b8m{A B:World}{a x:Nat}{oa ox:Obj}{r:Option Nat}(h:A.heap[a]?=some oa/\A.heap[x]?=some ox)(hg:A.grownBy B r)(ha:∀j,r=some j->a≠j)(hx:∀j,r=some j->x≠j):B.heap[a]?=some oa/\B.heap[x]?=some ox:=
 ⟨(hg.block _ (aC.1 h.1).1 (fun e=>ha a e.symm rfl)).trans h.1,(hg.block _ (aC.1 h.2).1 (fun e=>hx x e.symm rfl)).trans h.2⟩
theorem c4i{ts:List Tok}(hT:lC ts){f n k d:Nat}(hk:k<ts.length){k':Nat}{x:Ex}{c:Int}(h:Says (rdR ts f n k d) k' x c):c=0->k<k':=by
 rintro rfl;have h:=h.yes;unfold rdR at h;split at h
 ·exact sI hT hk h
 ·cases h
theorem b8d{A:World}{base:Nat}{e:TypeId}{size n:Nat}{v:Value}{xs:List Value}(h:A.ownsRow base e size v n xs){b:Nat}(hb:b<base)(y0 y1:Value):(set2 A b y0 y1).ownsRow base e size v n xs:=by
 refine⟨h.1,?_⟩;rcases h.2 with h0|⟨g,cap,cur,hv,hg,hh,r⟩
 ·exact .inl h0
 ·exact .inr ⟨g,cap,cur,hv,hg,(cO _ aE _ _).trans hh,r⟩
theorem b3x{f:Nat}(IH:∀f',f'<=f->c4h f'):c2p f:=by
 intro W g cap ts nm k d h hT hfew hk hd hne;have H:=aB h;have HI:=aB IH;have HK:=aB hk;have HT:=aB hT;have hd1:(d:Int)<=60:=aE;obtain⟨idx,hi7,hino,hiyes⟩:=c8q a5w nm
 replace hi7:idx<=7:=hi7
 replace hiyes:idx<7->a5w.getD idx []=nm:=hiyes
 have HINO:=aB hino;have HIYES:=aB hiyes;obtain⟨R,HR0⟩:∃R,Hid (R=iW ts (dW ts f) nm k d):=⟨_,rfl⟩
 rw[<-HR0.o] at hne⊢;have HNE:=aB hne;have HF0:=aB (FrR.start W g ts.length cap k);clear h IH hk hT hne hino hiyes;go_enter func243,ntmps243
 go_upto_block 0 with fail
 go_cut [10] from 22 to 35 (fun t wc=>t= .int .i64 (idx:Int)/\FrR W wc g ts.length cap k)
 case first=>
  go_wp2_with fail
  go_loop [10] (fun i=>∃j:Nat,j<=idx/\i= .int .i64 (j:Int)) (fun i=>7-(intOf i).toNat)
  case atStart=>exact⟨0,dL _,rfl⟩
  case round=>
   obtain⟨j,hj,rfl⟩:=hrel;by_cases hlt:j<idx
   ·have hb:=HINO.o j hlt;rcases c1l (show j<7 by omega) with rfl|rfl|rfl|rfl|rfl|rfl|rfl
    all_goals
     simp only[a5w,nR,List.getD_cons_succ] at hb;have hb2:=b3r hb;go_wp2
     go_round
     case rel=>exact⟨_,Nat.succ_le_of_lt hlt,rfl⟩
     case measure=>simp[intOf]
   ·obtain rfl:j=idx:=by omega
    have HFk:=aB (HF0.o.next ((Bl.refl _).alloc (.cells #[.string ⟨#[108,101,110,103,116,104]⟩,.string ⟨#[97,98,115]⟩,.string ⟨#[99,111,97,108,101,115,99,101]⟩,.string ⟨#[99,111,117,110,116]⟩,.string ⟨#[115,117,109]⟩,.string ⟨#[109,105,110]⟩,.string ⟨#[109,97,120]⟩] 9)));by_cases h7:j=7
    ·subst h7;go_wp2_with fail
     go_meet
     case rel=>exact⟨rfl,HFk.o⟩
    ·have hy:=HIYES.o aE;clear HINO HIYES HNE HR0 HI;rcases c1l (show j<7 by omega) with rfl|rfl|rfl|rfl|rfl|rfl|rfl
     all_goals
      simp only[a5w,nR,List.getD_cons_succ] at hy;subst hy;go_wp2_with fail
      go_meet
      case rel=>exact⟨rfl,HFk.o⟩
 case rest=>
  obtain⟨rfl,hF⟩:=hcut;have HF1:=aB hF;have hi7':(idx:Int)<=7:=aE;have hzc:=hF.size;clear hF HF0;by_cases h7:idx=7
  ·subst h7;have hSay:=aB (show Says R k zeroE 261 from .inr ⟨.inr rfl,by rw[HR0.o];unfold iW;rw[if_pos (c1x fun i hi=>HINO.o i hi)]⟩);have HKK:=HK;obtain⟨s0,s1,-,-,-⟩:=aU HF1.o.s;obtain⟨r0,r1,z0,z1,hlr⟩:=aU HF1.o.r;obtain⟨⟨e0,e1,e2,e3,e4,e5,e6,e7⟩,f0,f1,f2,f3,f4,f5,f6,f7⟩:=eight HF1.o.x;go_wp2;obtain⟨⟨q0,q1⟩,q2,q3,q4,q5,q6,q7,q8,q9⟩:=fG (b:=W.heap.size+1) (c:=W.heap.size+1+1) aE HF1.o.r HF1.o.x (.slice (some ⟨g,0,none⟩) ts.length cap) (.int .i64 (k:Int)) (.int .i64 0) (.int .i64 0) (.int .i64 0) (S []) (S []) (S []) (.int .i64 0) (.slice none 0 0);exact bodyPost_ret (v:= .tuple #[RS g ts.length cap k,EV 0 (0,0,[]) [] [] 0 (.slice none 0 0),.int .i64 261]) cU rfl ⟨k,.mk 0 (0,0,[]) [] [] 0 [],_,261,HKK.o,⟨_,rfl,bG.nil _ _ none 0⟩,rfl,lS HF1.o.bl aE aE _ _ _ _ _ _ _ _ _ _,hSay.o⟩
  ·have hR:=HR0.o;unfold iW at hR;rw[if_neg (by rw[b8l (show idx<7 by omega) (HIYES.o aE)];simp)] at hR;have hi8:¬(idx:Int)=7:=aE;have hi9:((idx:Int)==7)=false:=(by simpa using hi8);obtain⟨kq,bq,hTE,hq7⟩:∃(kq:Nat) (bq:Bool),mU g cap ts k [[42],[41]]= .returned (.tuple #[RS g ts.length cap kq,.bool bq])/\((bq=true/\bH ts k [[42],[41]]=some kq)\/(bq=false/\bH ts k [[42],[41]]=none)):=by
    cases ht:bH ts k [[42],[41]] with
    |none=>exact⟨k,false,jN ht,.inr ⟨rfl,rfl⟩⟩
    |some kq=>exact⟨kq,true,jM ht,.inl ⟨rfl,rfl⟩⟩
   have HTE:=aB hTE;by_cases hgo:bq=true/\nm=gX
   ·obtain⟨rfl,rfl⟩:=hgo;have ht:bH ts k [[42],[41]]=some kq:=by
     rcases hq7 with⟨_,h⟩|⟨h,_⟩
     ·exact h
     ·cases h
    rw[if_pos rfl,ht] at hR;have hSay:=aB (show Says R kq (.mk 5 (0,0,[]) [] gX 0 []) 0 from .inl ⟨rfl,hR⟩);have HKK:=aB (gV HT.o HK.o ht).2;clear hR hTE hq7 ht;obtain⟨s0,s1,-,-,-⟩:=aU HF1.o.s;go_wp2_with fail;refine(dH H.o (HF1.o.bl.alloc _) hfew HK.o 2 [[42],[41]] rfl aa (aN _ _)).mono ?_;rintro e w3 ⟨rfl,hb3⟩;rw[HTE.o];have HF3:=aB (HF1.o.next ((((Bl.refl _).alloc _).call hb3).alloc (.cells #[.slice (some ⟨g,0,none⟩) ts.length cap,.int .i64 (kq:Int)] 54)));have hz3:=HF3.o.size;clear hb3 s0 s1;obtain⟨r0,r1,z0,z1,hlr⟩:=aU HF3.o.r;obtain⟨⟨e0,e1,e2,e3,e4,e5,e6,e7⟩,f0,f1,f3,f4,f5,f6,f7,f8⟩:=eight HF3.o.x;unfold gX at *;go_wp2;obtain⟨⟨q0,q1⟩,q2,q3,q4,q5,q6,q7,q8,q9⟩:=fG (b:=W.heap.size+1) (c:=W.heap.size+1+1) aE HF3.o.r HF3.o.x (.slice (some ⟨g,0,none⟩) ts.length cap) (.int .i64 (kq:Int)) (.int .i64 5) (.int .i64 0) (.int .i64 0) (S []) (S []) (S [99,111,117,110,116]) (.int .i64 0) (.slice none 0 0);exact bodyPost_ret (v:= .tuple #[RS g ts.length cap kq,EV 5 (0,0,[]) [] [99,111,117,110,116] 0 (.slice none 0 0),.int .i64 0]) cU rfl ⟨kq,.mk 5 (0,0,[]) [] [99,111,117,110,116] 0 [],_,0,HKK.o,⟨_,rfl,bG.nil _ _ none 0⟩,rfl,lS HF3.o.bl aE aE _ _ _ _ _ _ _ _ _ _,hSay.o⟩
   ·have hargs:R=dW ts f (.args nm k d []):=by
     rw[hR];split
     ·rename_i hc;rcases hq7 with⟨rfl,h⟩|⟨rfl,h⟩
      ·exact absurd ⟨rfl,hc⟩ hgo
      ·rw[h]
     ·rfl
    have HAR:=aB hargs;have hcases:bq=false\/bq=true/\((nm==[99,111,117,110,116])=false/\¬nm=[99,111,117,110,116]):=by
     cases bq
     ·exact .inl rfl
     ·have hc0:¬nm=[99,111,117,110,116]:=fun e=>hgo ⟨rfl,e⟩;exact .inr ⟨rfl,by simpa using hc0,hc0⟩
    clear hR hTE hq7 hgo hargs;obtain⟨s0,s1,-,-,-⟩:=aU HF1.o.s;go_wp2_with fail;refine(dH H.o (HF1.o.bl.alloc _) hfew HK.o 2 [[42],[41]] rfl aa (aN _ _)).mono ?_;rintro e w3 ⟨rfl,hb3⟩;rw[HTE.o];have HF3:=aB (HF1.o.next ((((Bl.refl _).alloc _).call hb3).alloc (.cells #[.slice (some ⟨g,0,none⟩) ts.length cap,.int .i64 (kq:Int)] 54)));have hz3:=HF3.o.size;clear hb3 s0 s1;rcases hcases with rfl|⟨rfl,hc1,hc2⟩
    all_goals
     go_wp2_with fail
    all_goals
     go_loopw [13] (fun lv wr=>∃(kk:Nat) (acc:List (Ex×Value)) (v0:Value),lv=v0/\kk<ts.length/\acc.length<=kk/\Hid (FrR W wr g ts.length cap kk)/\Hid (wr.ownsRow (W.heap.size+3) 33 8 lv acc.length (a4j acc))/\
       Hid (∀q∈acc,bG (fun b=>W.heap.size+3<=b/\some b≠lv.ownBlock) wr q.2 q.1.args)/\Hid (∃f',f'<=f/\R=dW ts f' (.args nm kk d (acc.map (·.1))))) (fun _ wr=>ts.length-tH wr W.heap.size)
     case atStart=>exact⟨k,[],_,rfl,HK.o,by simp,HF3.o,d2l _ _ _ _,fun q hq=>by simp at hq,f,aH _,HAR.o⟩
     case round=>
      obtain⟨kk,acc,v0,hv0,hkk,hacc,HFw,HOW,HTR,HFF⟩:=hrel;subst hv0;obtain⟨f',hf',hRf⟩:=HFF.o;obtain⟨f2,rfl⟩:∃f2,f'=f2+1:=by
       cases f' with
       |zero=>exact absurd hRf HNE.o
       |succ m=>exact⟨m,rfl⟩
      replace hRf:R=nI ts (dW ts f2) (.args nm kk d (acc.map (·.1))):=hRf
      rw[sF,<-xP] at hRf;have hne1:rdR ts f2 0 kk (d+1)≠ .o:=by
       have:=HNE.o;rw[hRf] at this;exact lG this
      have HN:=aB hne1;have HRF:=aB hRf;have hzw:=HFw.o.size;obtain⟨s0,s1,-,-,hls⟩:=aU HFw.o.s;clear hRf hne1 HFF;go_wp2_with fail;refine(HI.o f2 aE _ g cap ts 0 kk (d+1) 0 (d+1) rfl rfl (H.o.bl HFw.o.bl) HT.o hfew hkk aE aE HN.o).mono ?_;rintro e w4 ⟨k',x,v,c,hk',⟨sv,rfl,hA⟩,rfl,hb4,hs⟩;have HF4:=aB (HFw.o.next hb4);obtain⟨xk,⟨x1,x2,x3⟩,xt,xn,xo,xa⟩:=x;obtain⟨asv,csv,rfl⟩:=hA.shape;simp only[Ex.k,Ex.v,Ex.t,Ex.n,Ex.o,Ex.args] at hA⊢;have hz4:=hb4.size;have hzF:=HF4.o.size;have hlow:=aB HOW.o.lt;have HKK:=aB hk';have HS:=aB hs;have hbq:Bl w4 ((w4.alloc (.cells #[.slice (some ⟨g,0,none⟩) ts.length cap,.int .i64 (k':Int)] 54)).alloc (.cells #[.int .i64 xk,.int .i64 x1,.int .i64 x2,S x3,S xt,S xn,.int .i64 xo,.slice asv xa.length csv] 33)):=((Bl.refl w4).alloc _).alloc _;have HAXq:=aB (show((w4.alloc (.cells #[.slice (some ⟨g,0,none⟩) ts.length cap,.int .i64 (k':Int)] 54)).alloc (.cells #[.int .i64 xk,.int .i64 x1,.int .i64 x2,S x3,S xt,S xn,.int .i64 xo,.slice asv xa.length csv] 33)).heap[w4.heap.size]?=some (.cells #[.slice (some ⟨g,0,none⟩) ts.length cap,.int .i64 (k':Int)] 54 (0,0))/\((w4.alloc (.cells #[.slice (some ⟨g,0,none⟩) ts.length cap,.int .i64 (k':Int)] 54)).alloc (.cells #[.int .i64 xk,.int .i64 x1,.int .i64 x2,S x3,S xt,S xn,.int .i64 xo,.slice asv xa.length csv] 33)).heap[w4.heap.size+1]?=some (.cells #[.int .i64 xk,.int .i64 x1,.int .i64 x2,S x3,S xt,S xn,.int .i64 xo,.slice asv xa.length csv] 33 (0,0)) from⟨(aW _ _ aa).trans (aN w4 _),aV _ _ aa⟩);have HAq:=aB (show bG (fun b=>W.heap.size+3<=b/\some b≠u13.ownBlock) ((w4.alloc (.cells #[.slice (some ⟨g,0,none⟩) ts.length cap,.int .i64 (k':Int)] 54)).alloc (.cells #[.int .i64 xk,.int .i64 x1,.int .i64 x2,S x3,S xt,S xn,.int .i64 xo,.slice asv xa.length csv] 33)) (.slice asv xa.length csv) xa from(hA.of fun b hl (hb:_<=b)=>⟨by omega,fun e=>by have:=(hlow.o b e.symm).2;omega⟩).bl hbq);have HFq:=aB (HF4.o.next hbq);have HOWq:=aB (gY (hb4.call hbq) HOW.o);have HTRq:=aB (show ∀q∈acc,bG (fun b=>W.heap.size+3<=b/\some b≠u13.ownBlock) ((w4.alloc (.cells #[.slice (some ⟨g,0,none⟩) ts.length cap,.int .i64 (k':Int)] 54)).alloc (.cells #[.int .i64 xk,.int .i64 x1,.int .i64 x2,S x3,S xt,S xn,.int .i64 xo,.slice asv xa.length csv] 33)) q.2 q.1.args from fun q hq=>(HTR.o q hq).bl (hb4.call hbq));have hlk:=c4i HT.o hkk hs;clear hA hs hk' hb4 hbq s0 s1;by_cases hc0:c=0
      ·subst hc0;have hRy:=HS.o.yes;have hR3:=HRF.o;rw[hRy] at hR3;simp only[Res.bind] at hR3;clear hRy;go_wp2_with fail;refine wp_region_noPanic (bM (fun B=>B.heap[w4.heap.size]?=some (.cells #[.slice (some ⟨g,0,none⟩) ts.length cap,.int .i64 (k':Int)] 54 (0,0))/\B.heap[w4.heap.size+1]?=some (.cells #[.int .i64 xk,.int .i64 x1,.int .i64 x2,S x3,S xt,S xn,.int .i64 xo,.slice asv xa.length csv] 33 (0,0))) ((.take 0 (.take 1 (.take 4 (.one 2 (.one 3 (.take 5 (.one 6 .done)))))))) ab ab ab (fun _ _ _ _ _ h=>h) (bK HAXq.o ((Bl.refl _).drew)) ?_);intro wd HWD hY;iterate 3 (refine cT ?_)
       refine aL rfl (fun K hK=>?_);go_simp;refine hK.o _ _ ((bK hY ((Bl.refl _).alloc _))) ?_;clear hY hK K;intro hY;refine aL rfl (fun K hK=>?_);rw[if_pos ae];refine wZ (.tmp 69) (.tmp 71) rfl (W.heap.size+3) u13 acc rfl ((gY HWD.o HOWq.o).alloc _) wd.heap.size (.mk xk (x1,x2,x3) xt xn xo xa) asv xa.length csv rfl (aV _ _ rfl) aE (by have:=(HFq.o.next HWD.o).size;rw[aR];omega) ?_;intro v' w5 hown5 hg5 hat;refine hK.o _ _ (b8m hY hg5 (fun j e h=>by subst h;have:=(hlow.o _ e).2;omega) (fun j e h=>by subst h;have:=(hlow.o _ e).2;omega)) (fun hY2=>?_);clear hY hK K;have hY:=hY2;clear hY2;have HF5:=aB (((HFq.o.next HWD.o).next ((Bl.refl _).alloc _)).grown hg5 (fun j e=>(hlow.o j e).1));have HTR5:=aB (show ∀q∈acc++[((Ex.mk xk (x1,x2,x3) xt xn xo xa),.slice asv xa.length csv)],bG (fun b=>W.heap.size+3<=b/\some b≠v'.ownBlock) w5 q.2 q.1.args from fun q hq=>by rcases iX.1 hq with hq|hq;exact(((HTRq.o q hq).bl HWD.o).bl ((Bl.refl _).alloc _)).own hg5 hat;obtain rfl:=gQ.1 hq;exact((HAq.o.bl HWD.o).bl ((Bl.refl _).alloc _)).own hg5 hat);obtain⟨g5,cap5,rfl⟩:=nG hown5;have HOW5:=aB hown5;have hz5:=HF5.o.size;clear hown5 hg5 hat;refine cT ?_;obtain⟨r0,r1,z0,z1,hlr⟩:=aU HF5.o.s;refine aL rfl (fun K hK=>?_);go_simp;refine hK.o _ _ ((eG (b:=W.heap.size) hY aE aE)) ?_;clear hY hK K;intro hY;clear r0 r1 z0 z1;refine fO (bF ?_);clear hY;have HFs:=aB (HF5.o.turn k');have HOWs:=aB (b8d HOW5.o (b:=W.heap.size) aE (.slice (some ⟨g,0,none⟩) ts.length cap) (.int .i64 (k':Int)));have HTRs:=aB (show ∀q∈acc++[((Ex.mk xk (x1,x2,x3) xt xn xo xa),.slice asv xa.length csv)],bG (fun b=>W.heap.size+3<=b/\some b≠iB (.slice (some ⟨g5,0,none⟩) (acc.length+1) cap5)) (set2 w5 W.heap.size (.slice (some ⟨g,0,none⟩) ts.length cap) (.int .i64 (k':Int))) q.2 q.1.args from fun q hq=>(HTR5.o q hq).set2' (fun i hi=>by have:=hi.1;omega) _ _);have hmap:(acc++[((Ex.mk xk (x1,x2,x3) xt xn xo xa),Value.slice asv xa.length csv)]).map (fun q:Ex×Value=>q.1)=acc.map (fun q:Ex×Value=>q.1)++[(Ex.mk xk (x1,x2,x3) xt xn xo xa)]:=aa;have hlen2:(acc++[((Ex.mk xk (x1,x2,x3) xt xn xo xa),Value.slice asv xa.length csv)]).length=acc.length+1:=aa;rw[<-hmap] at hR3;generalize acc++[((Ex.mk xk (x1,x2,x3) xt xn xo xa),Value.slice asv xa.length csv)]=acc2 at *;obtain⟨k2,b2,hTE2,hq2⟩:∃(k2:Nat) (b2:Bool),mU g cap ts k' [[44]]= .returned (.tuple #[RS g ts.length cap k2,.bool b2])/\((b2=true/\bH ts k' [[44]]=some k2)\/(b2=false/\bH ts k' [[44]]=none)):=by
        cases ht:bH ts k' [[44]] with
        |none=>exact⟨k',false,jN ht,.inr ⟨rfl,rfl⟩⟩
        |some k2=>exact⟨k2,true,jM ht,.inl ⟨rfl,rfl⟩⟩
       have HTE2:=aB hTE2;clear hTE2 hmap HF5 HOW5 HTR5;obtain⟨s0,s1,-,-,-⟩:=aU HFs.o.s;by_cases hgo2:b2=true/\nm=[99,111,97,108,101,115,99,101]
       ·obtain⟨rfl,hco⟩:=hgo2;have ht2:bH ts k' [[44]]=some k2:=by
         rcases hq2 with⟨_,h⟩|⟨h,_⟩
         ·exact h
         ·cases h
        have hR4:=aB (show R=dW ts f2 (.args nm k2 d (acc2.map (·.1))) from by rw[hR3,if_pos (show nm=bZ from hco),ht2]);have hk2:=kS HT.o HKK.o ht2;clear hq2 hR3 ht2;subst hco;go_wp2_with fail;refine(dH H.o (HFs.o.bl.alloc _) hfew HKK.o 1 [[44]] rfl aa (aV _ _ aa)).mono ?_;rintro e w6 ⟨rfl,hb6⟩;rw[HTE2.o];have hbq:=(((Bl.refl _).alloc _).call hb6).alloc (.cells #[.slice (some ⟨g,0,none⟩) ts.length cap,.int .i64 (k2:Int)] 54);have HF6:=aB (HFs.o.next hbq);have HOW6:=aB (gY hbq HOWs.o);have HTR6:=aB (show ∀q∈acc2,bG _ _ q.2 q.1.args from fun q hq=>(HTRs.o q hq).bl hbq);clear s0 s1 hb6 hbq;obtain⟨r0,r1,z0,z1,hlr⟩:=aU HF6.o.s;go_wp2;go_roundw
        case rel=>
         refine⟨k2,acc2,_,rfl,hk2.2,by have:=hlk trivial;omega,HF6.o.turn k2,?_,fun q hq=>(HTR6.o q hq).set2' (fun i hi=>by have:=hi.1;omega) _ _,f2,by omega,hR4.o⟩;show World.ownsRow _ _ _ _ _ _ _;rw[hlen2];exact b8d HOW6.o (b:=W.heap.size) aE _ _
        case measure=>
         have n1:=yN HFw.o.s;have n2:=yN (HF6.o.turn k2).s;have:=hlk trivial;rw[n1];show ts.length-tH (set2 _ W.heap.size (.slice (some ⟨g,0,none⟩) ts.length cap) (.int .i64 (k2:Int))) W.heap.size<_;rw[n2];omega
       ·have hR4:R=match bH ts k' [[41]] with
         |some k9=> .good k9 (qO nm (acc2.map fun q:Ex×Value=>q.1))
         |none=> .bad 261:=by
         rw[hR3];by_cases hco:nm=bZ
         ·rw[if_pos hco];rcases hq2 with⟨rfl,_⟩|⟨_,h⟩
          ·exact absurd ⟨rfl,hco⟩ hgo2
          ·rw[h];rfl
         ·rw[if_neg hco];rfl
        have hcases2:b2=false\/b2=true/\((nm==[99,111,97,108,101,115,99,101])=false/\(nm != [99,111,97,108,101,115,99,101])=true):=by
         cases b2
         ·exact .inl rfl
         ·have hc0:¬nm=[99,111,97,108,101,115,99,101]:=fun e=>hgo2 ⟨rfl,e⟩;exact .inr ⟨rfl,by simpa using hc0,by simpa using hc0⟩
        clear hq2 hR3 hgo2;go_wp2_with fail;refine(dH H.o (HFs.o.bl.alloc _) hfew HKK.o 1 [[44]] rfl aa (aV _ _ aa)).mono ?_;rintro e w6 ⟨rfl,hb6⟩;rw[HTE2.o];have hbq:=(((Bl.refl _).alloc _).call hb6).alloc (.cells #[.slice (some ⟨g,0,none⟩) ts.length cap,.int .i64 (k2:Int)] 54);have HF6:=aB (HFs.o.next hbq);have HOW6:=aB (gY hbq HOWs.o);have HTR6:=aB (show ∀q∈acc2,bG _ _ q.2 q.1.args from fun q hq=>(HTRs.o q hq).bl hbq);clear s0 s1 hb6 hbq;obtain⟨s0,s1,-,-,-⟩:=aU HF6.o.s;rcases hcases2 with rfl|⟨rfl,hc1,hc2⟩
        all_goals
         cases h41:bH ts k' [[41]] with
         |none=>
          rw[h41] at hR4;have hSay:=aB (show Says R k' zeroE 261 from .inr ⟨.inr rfl,hR4⟩);have HE9:=aB (jN (g:=g) (cap:=cap) h41);clear hR4 h41;go_wp2_with fail;refine(dH H.o (HF6.o.bl.alloc _) hfew HKK.o 1 [[41]] rfl aa (aV _ _ aa)).mono ?_;rintro e w7 ⟨rfl,hb7⟩;rw[HE9.o];have HF7:=aB (HF6.o.next ((((Bl.refl _).alloc _).call hb7).alloc (.cells #[.slice (some ⟨g,0,none⟩) ts.length cap,.int .i64 (k':Int)] 54)));have hz7:=HF7.o.size;clear s0 s1 hb7;obtain⟨s0,s1,-,-,-⟩:=aU HF7.o.s;obtain⟨r0,r1,z0,z1,hlr⟩:=aU HF7.o.r;obtain⟨⟨e0,e1,e2,e3,e4,e5,e6,e7⟩,f0,f1,f3,f4,f5,f6,f7,f8⟩:=eight HF7.o.x;go_wp2;obtain⟨⟨q0,q1⟩,q2,q3,q4,q5,q6,q7,q8,q9⟩:=fG (b:=W.heap.size+1) (c:=W.heap.size+1+1) aE HF7.o.r HF7.o.x (.slice (some ⟨g,0,none⟩) ts.length cap) (.int .i64 (k':Int)) (.int .i64 0) (.int .i64 0) (.int .i64 0) (S []) (S []) (S []) (.int .i64 0) (.slice none 0 0);exact bodyPost_ret (v:= .tuple #[RS g ts.length cap k',EV 0 (0,0,[]) [] [] 0 (.slice none 0 0),.int .i64 261]) cU rfl ⟨k',.mk 0 (0,0,[]) [] [] 0 [],_,261,HKK.o,⟨_,rfl,bG.nil _ _ none 0⟩,rfl,lS HF7.o.bl aE aE _ _ _ _ _ _ _ _ _ _,hSay.o⟩
         |some k9=>
          rw[h41] at hR4;have hk9:=kS HT.o HKK.o h41;have HE9:=aB (jM (g:=g) (cap:=cap) h41);have hSay:=aB (show Says R k9 (qO nm (acc2.map fun q:Ex×Value=>q.1)) 0 from .inl ⟨rfl,hR4⟩);clear hR4 h41;go_wp2_with fail;refine(dH H.o (HF6.o.bl.alloc _) hfew HKK.o 1 [[41]] rfl aa (aV _ _ aa)).mono ?_;rintro e w7 ⟨rfl,hb7⟩;rw[HE9.o];have hbq:=(((Bl.refl _).alloc _).call hb7).alloc (.cells #[.slice (some ⟨g,0,none⟩) ts.length cap,.int .i64 (k9:Int)] 54);have HF7:=aB (HF6.o.next hbq);have HOW7:=aB (gY hbq HOW6.o);have HTR7:=aB (show ∀q∈acc2,bG _ _ q.2 q.1.args from fun q hq=>(HTR6.o q hq).bl hbq);have hz7:=(HF6.o.next (((Bl.refl _).alloc _).call hb7)).size;clear s0 s1 hb7 hbq;have HT9:=aB (show bG (fun b=>W.heap.size+3<=b/\True) (w7.alloc (.cells #[.slice (some ⟨g,0,none⟩) ts.length cap,.int .i64 (k9:Int)] 54)) (.slice (some ⟨g5,0,none⟩) (acc.length+1) cap5) (acc2.map fun q:Ex×Value=>q.1) from by
           have h:=HOW7.o;have hg5:=(h.lt g5 rfl).1;rw[<-hlen2] at h⊢;exact c7f h ⟨hg5,trivial⟩ fun q hq=>(HTR7.o q hq).of fun b _ hb=>⟨hb.1,trivial⟩)
          have H19:=aB (bT (aN w7 (.cells #[.slice (some ⟨g,0,none⟩) ts.length cap,.int .i64 (k9:Int)] 54)) HF7.o.s);clear HOWs HOW6 HOW7 HTRs HTR6 HTR7 HTRq HOWq HAXq HAq HOW HTR;have hyes:=HIYES.o aE;by_cases h2:idx<2
          ·have hop:qO nm (acc2.map fun q:Ex×Value=>q.1)=opE (19+(idx:Int)) (acc2.map fun q:Ex×Value=>q.1):=by
            have h01:idx=0\/idx=1:=aE;rcases h01 with rfl|rfl
            ·rw[<-hyes];rfl
            ·rw[<-hyes];rfl
           have HSay:=aB (show Says R k9 (opE (19+(idx:Int)) (acc2.map fun q:Ex×Value=>q.1)) 0 from by rw[<-hop];exact hSay.o);have hi2:(idx:Int)<2:=aE;clear hop hyes hSay;go_wp2_with fail;have hwr:IntKind.i64.wrap (19+(idx:Int))=19+(idx:Int):=by
            have h01:idx=0\/idx=1:=aE;rcases h01 with h|h<;>rw[h]<;>rfl
           refine wp_region_noPanic (bM (fun B=>B.heap[w7.heap.size]?=some (.cells #[.slice (some ⟨g,0,none⟩) ts.length cap,.int .i64 (k9:Int)] 54 (0,0))/\B.heap[W.heap.size]?=some (.cells #[.slice (some ⟨g,0,none⟩) ts.length cap,.int .i64 (k':Int)] 54 (0,0))) ((.take 0 (.take 1 (.take 2 (.take 3 (.one 4 (.one 5 (.one 6 (.take 7 .done))))))))) ab ab ab (fun _ _ _ _ _ h=>h) (bK H19.o ((Bl.refl _).drew)) ?_);intro wd HWD hY;iterate 4 (refine cT ?_)
           refine aL rfl (fun K hK=>?_);go_simp;((with_reducible refine(yZ (19+(idx:Int)) _ ⟨_,_,_,rfl⟩ _).mono ?_);rintro e w8 ⟨rfl,hb⟩);go_wp2_with fail;refine hK.o _ _ (bK hY hb) ?_;clear hY hK K;intro hY;have HF8:=aB ((HF7.o.next HWD.o).next hb);have HT8:=aB ((HT9.o.bl HWD.o).bl hb);clear hb;obtain⟨r0,r1,z0,z1,hlr⟩:=aU HF8.o.r;refine aL rfl (fun K hK=>?_);go_simp;refine hK.o _ _ ((eG (b:=W.heap.size+1) hY aE aE)) ?_;clear hY hK K;intro hY;clear r0 r1 z0 z1;obtain⟨⟨e0,e1,e2,e3,e4,e5,e6,e7⟩,f0,f1,f2,f3,f4,f5,f6,f7⟩:=eight ((cO w8 (b:=W.heap.size+1) (i:=W.heap.size+1+1) aE (.slice (some ⟨g,0,none⟩) ts.length cap) (.int .i64 (k9:Int))).trans HF8.o.x);refine aL rfl (fun K hK=>?_);go_simp;refine hK.o _ _ ((kF (b:=W.heap.size+1+1) hY aE aE)) ?_;clear hY hK K;intro hY;refine cT ?_;refine fO (bF ?_);go_wp2;obtain⟨⟨q0,q1⟩,q2,q3,q4,q5,q6,q7,q8,q9⟩:=fG (b:=W.heap.size+1) (c:=W.heap.size+1+1) aE HF8.o.r HF8.o.x (.slice (some ⟨g,0,none⟩) ts.length cap) (.int .i64 (k9:Int)) (.int .i64 3) (.int .i64 0) (.int .i64 0) (S []) (S []) (S []) (.int .i64 (19+(idx:Int))) (.slice (some ⟨g5,0,none⟩) (acc.length+1) cap5);have hX:gM _ _ (opE (19+(idx:Int)) (acc2.map fun q:Ex×Value=>q.1)) (EV 3 (0,0,[]) [] [] (19+(idx:Int)) (.slice (some ⟨g5,0,none⟩) (acc.length+1) cap5)):=xE _ HT8.o;exact bodyPost_ret (v:= .tuple #[RS g ts.length cap k9,EV 3 (0,0,[]) [] [] (19+(idx:Int)) (.slice (some ⟨g5,0,none⟩) (acc.length+1) cap5),.int .i64 0]) cU rfl ⟨k9,_,_,0,hk9.2,iY hX (fun i hi=>⟨by have:=hi.1;omega,by have:=hi.1;omega,by have:=hi.1;omega⟩) _ _ _ _ _ _ _ _ _ _,rfl,lS HF8.o.bl aE aE _ _ _ _ _ _ _ _ _ _,HSay.o⟩
          have hi2:¬(idx:Int)<2:=aE;by_cases h3:idx=2
          ·have hop:qO nm (acc2.map fun q:Ex×Value=>q.1)= .mk 4 (0,0,[]) [] [] 0 (acc2.map fun q:Ex×Value=>q.1):=by
            subst h3;rw[<-hyes];rfl
           have HSay:=aB (show Says R k9 (.mk 4 (0,0,[]) [] [] 0 (acc2.map fun q:Ex×Value=>q.1)) 0 from by rw[<-hop];exact hSay.o);have hi3:(idx:Int)=2:=aE;have hi4:((idx:Int)==2)=true:=(by simpa using hi3);clear hop hyes hSay hi3;obtain⟨s0,s1,-,-,-⟩:=aU HF7.o.s;obtain⟨r0,r1,z0,z1,hlr⟩:=aU HF7.o.r;obtain⟨⟨e0,e1,e2,e3,e4,e5,e6,e7⟩,f0,f1,f3,f4,f5,f6,f7,f8⟩:=eight HF7.o.x;go_wp2;obtain⟨⟨q0,q1⟩,q2,q3,q4,q5,q6,q7,q8,q9⟩:=fG (b:=W.heap.size+1) (c:=W.heap.size+1+1) aE HF7.o.r HF7.o.x (.slice (some ⟨g,0,none⟩) ts.length cap) (.int .i64 (k9:Int)) (.int .i64 4) (.int .i64 0) (.int .i64 0) (S []) (S []) (S []) (.int .i64 0) (.slice (some ⟨g5,0,none⟩) (acc.length+1) cap5);have hX:gM _ _ (.mk 4 (0,0,[]) [] [] 0 (acc2.map fun q:Ex×Value=>q.1)) (EV 4 (0,0,[]) [] [] 0 (.slice (some ⟨g5,0,none⟩) (acc.length+1) cap5)):=⟨_,rfl,HT9.o⟩
           exact bodyPost_ret (v:= .tuple #[RS g ts.length cap k9,EV 4 (0,0,[]) [] [] 0 (.slice (some ⟨g5,0,none⟩) (acc.length+1) cap5),.int .i64 0]) cU rfl ⟨k9,_,_,0,hk9.2,iY hX (fun i hi=>⟨by have:=hi.1;omega,by have:=hi.1;omega,by have:=hi.1;omega⟩) _ _ _ _ _ _ _ _ _ _,rfl,lS HF7.o.bl aE aE _ _ _ _ _ _ _ _ _ _,HSay.o⟩
          ·have hop:qO nm (acc2.map fun q:Ex×Value=>q.1)= .mk 5 (0,0,[]) [] nm 0 (acc2.map fun q:Ex×Value=>q.1):=by
            have h36:idx=3\/idx=4\/idx=5\/idx=6:=aE;rcases h36 with rfl|rfl|rfl|rfl
            all_goals
             rw[<-hyes];rfl
           have HSay:=aB (show Says R k9 (.mk 5 (0,0,[]) [] nm 0 (acc2.map fun q:Ex×Value=>q.1)) 0 from by rw[<-hop];exact hSay.o);have hi3:¬(idx:Int)=2:=aE;have hi4:((idx:Int)==2)=false:=(by simpa using hi3);clear hop hyes hSay;obtain⟨s0,s1,-,-,-⟩:=aU HF7.o.s;obtain⟨r0,r1,z0,z1,hlr⟩:=aU HF7.o.r;obtain⟨⟨e0,e1,e2,e3,e4,e5,e6,e7⟩,f0,f1,f3,f4,f5,f6,f7,f8⟩:=eight HF7.o.x;go_wp2;obtain⟨⟨q0,q1⟩,q2,q3,q4,q5,q6,q7,q8,q9⟩:=fG (b:=W.heap.size+1) (c:=W.heap.size+1+1) aE HF7.o.r HF7.o.x (.slice (some ⟨g,0,none⟩) ts.length cap) (.int .i64 (k9:Int)) (.int .i64 5) (.int .i64 0) (.int .i64 0) (S []) (S []) (S nm) (.int .i64 0) (.slice (some ⟨g5,0,none⟩) (acc.length+1) cap5);have hX:gM _ _ (.mk 5 (0,0,[]) [] nm 0 (acc2.map fun q:Ex×Value=>q.1)) (EV 5 (0,0,[]) [] nm 0 (.slice (some ⟨g5,0,none⟩) (acc.length+1) cap5)):=⟨_,rfl,HT9.o⟩
           exact bodyPost_ret (v:= .tuple #[RS g ts.length cap k9,EV 5 (0,0,[]) [] nm 0 (.slice (some ⟨g5,0,none⟩) (acc.length+1) cap5),.int .i64 0]) cU rfl ⟨k9,_,_,0,hk9.2,iY hX (fun i hi=>⟨by have:=hi.1;omega,by have:=hi.1;omega,by have:=hi.1;omega⟩) _ _ _ _ _ _ _ _ _ _,rfl,lS HF7.o.bl aE aE _ _ _ _ _ _ _ _ _ _,HSay.o⟩
      ·have hcb:(c==0)=false:=by simpa using hc0
       have hcb':(c != 0)=true:=ap;have hSay:=aB (show Says R k' (.mk xk (x1,x2,x3) xt xn xo xa) c from by
        obtain⟨h1,h2⟩:=HS.o.no hc0;exact .inr ⟨h1,by rw[HRF.o,h2];rfl⟩)
       clear HS;go_wp2_with fail;refine wp_region_noPanic (bM (fun B=>B.heap[w4.heap.size]?=some (.cells #[.slice (some ⟨g,0,none⟩) ts.length cap,.int .i64 (k':Int)] 54 (0,0))/\B.heap[w4.heap.size+1]?=some (.cells #[.int .i64 xk,.int .i64 x1,.int .i64 x2,S x3,S xt,S xn,.int .i64 xo,.slice asv xa.length csv] 33 (0,0))) ((.take 0 (.take 1 (.take 2 (.one 3 (.one 4 (.take 5 .done))))))) ab ab ab (fun _ _ _ _ _ h=>h) (bK HAXq.o ((Bl.refl _).drew)) ?_);intro wd HWD hY;iterate 3 (refine cT ?_)
       obtain⟨r0,r1,z0,z1,hlr⟩:=aU (HFq.o.next HWD.o).r;refine aL rfl (fun K hK=>?_);go_simp;refine hK.o _ _ ((eG (b:=W.heap.size+1) hY aE aE)) ?_;clear hY hK K;intro hY;clear r0 r1 z0 z1;obtain⟨⟨e0,e1,e2,e3,e4,e5,e6,e7⟩,f0,f1,f2,f3,f4,f5,f6,f7⟩:=eight ((cO _ (b:=W.heap.size+1) (i:=W.heap.size+1+1) aE (.slice (some ⟨g,0,none⟩) ts.length cap) (.int .i64 (k':Int))).trans (HFq.o.next HWD.o).x);refine aL rfl (fun K hK=>?_);go_simp;refine hK.o _ _ ((kF (b:=W.heap.size+1+1) hY aE aE)) ?_;clear hY hK K;intro hY;refine cT ?_;refine fO (bF ?_);go_wp2;obtain⟨⟨q0,q1⟩,q2,q3,q4,q5,q6,q7,q8,q9⟩:=fG (b:=W.heap.size+1) (c:=W.heap.size+1+1) aE (HFq.o.next HWD.o).r (HFq.o.next HWD.o).x (.slice (some ⟨g,0,none⟩) ts.length cap) (.int .i64 (k':Int)) (.int .i64 xk) (.int .i64 x1) (.int .i64 x2) (S x3) (S xt) (S xn) (.int .i64 xo) (.slice asv xa.length csv);have hX:gM _ _ (.mk xk (x1,x2,x3) xt xn xo xa) (EV xk (x1,x2,x3) xt xn xo (.slice asv xa.length csv)):=⟨_,rfl,HAq.o.bl HWD.o⟩
       exact bodyPost_ret (v:= .tuple #[RS g ts.length cap k',EV xk (x1,x2,x3) xt xn xo (.slice asv xa.length csv),.int .i64 c]) cU rfl ⟨k',_,_,c,HKK.o,iY hX (fun i hi=>⟨by have:=hi.1;omega,by have:=hi.1;omega,by have:=hi.1;omega⟩) _ _ _ _ _ _ _ _ _ _,rfl,lS (HFq.o.next HWD.o).bl aE aE _ _ _ _ _ _ _ _ _ _,hSay.o⟩
end
section
theorem c2h{f:Nat}(IH:∀f',f'<=f->c4h f'):c4h (f+1):=by
 intro W g cap ts n k d n' d' hn' hd' h hT hfew hk hn hd hne;subst hn' hd';by_cases h60:d<=60
 ·rw[nH _ _ _ _ _ h60] at hne⊢;have hI:=IH f (aH _);by_cases h2:n=2
  ·subst h2;exact c5l hI h hT hfew hk h60 hne
  by_cases h7:n=7
  ·subst h7;exact c5j hI (b8h hI (b3x IH)) h hT hfew hk h60 hne
  by_cases h3:n=3
  ·subst h3;exact c5k IH h hT hfew hk h60 hne
  ·exact c5i IH h hT hfew hk h60 aE h2 h3 hne
 ·obtain rfl:d=61:=by omega
  rw[show rdR ts (f+1) n k 61= .bad 260 from rfl];exact a9b _ hk W
theorem d1q:∀(m f:Nat),f<=m->c4h f
 |_,0,_=>by
  intro W g cap ts n k d n' d' hn' hd' h hT hfew hk hn hd hne;subst hn' hd';by_cases h60:d<=60
  ·exact absurd (nH ts 0 n k d h60) (fun e=>hne (by rw[e];rfl))
  ·obtain rfl:d=61:=by omega
   rw[show rdR ts 0 n k 61= .bad 260 from rfl];exact a9b _ hk W
 |0,f+1,h=>by omega
 |m+1,f+1,h=>c2h fun f' hf'=>d1q m f' aE
def b3u(g cap:Nat)(ts:List Tok)(k:Nat)(W:World)(e:Ending)(w':World):Prop:=match uD ts k with
 | .o=>False
 | .bad c=>(c=260\/c=261)/\e= .returned (.tuple #[RS g ts.length cap k,EV 0 (0,0,[]) [] [] 0 (.slice none 0 0),.int .i64 c])/\Bl W w'
 | .good k' x=>∃v,k'<ts.length/\pU W.heap.size w' x v/\e= .returned (.tuple #[RS g ts.length cap k',v,.int .i64 0])/\Bl W w'
theorem b3y{W:World}{g cap:Nat}{ts:List Tok}{k:Nat}(h:Row W g ts)(hT:lC ts)(hfew:ts.length<=100000)(hk:k<ts.length):eu 123 #[RS g ts.length cap k] W (b3u g cap ts k W):=by
 have he:=yM hT hk;have hne:rdR ts (steps ts) 0 k 0≠ .o:=by
  rw[nH _ _ _ _ _ aE];intro e;unfold uD at he;rw[e] at he;exact he
 have hall:=d1q _ (steps ts) (aH _);obtain⟨R,HR0⟩:∃R,Hid (R=uD ts k):=⟨_,rfl⟩
 have HP:Hid (∀e w',(match R with
  | .o=>False
  | .bad c=>(c=260\/c=261)/\e= .returned (.tuple #[RS g ts.length cap k,EV 0 (0,0,[]) [] [] 0 (.slice none 0 0),.int .i64 c])/\Bl W w'
  | .good k' x=>∃v,k'<ts.length/\pU W.heap.size w' x v/\e= .returned (.tuple #[RS g ts.length cap k',v,.int .i64 0])/\Bl W w')->b3u g cap ts k W e w'):=fun e w' hh=>by
  unfold b3u;rw[<-HR0.o];exact hh
 have H:=aB h;have HK:=aB hk;have HT:=aB hT;have HA0:=aB hall;have HN:=aB hne;have HF0:=aB (FrR.start W g ts.length cap k);clear h hk hT hall hne he;go_enter func123,ntmps123;go_wp2_with fail;refine(HA0.o _ g cap ts 0 k 0 0 0 rfl rfl (H.o.bl HF0.o.bl) HT.o hfew HK.o aE aE HN.o).mono ?_;rintro e w4 ⟨k',x,v,c,hk',⟨sv,rfl,hA⟩,rfl,hb4,hs⟩;have HF4:=aB (HF0.o.next hb4);obtain⟨xk,⟨x1,x2,x3⟩,xt,xn,xo,xa⟩:=x;obtain⟨asv,csv,rfl⟩:=hA.shape;simp only[Ex.k,Ex.v,Ex.t,Ex.n,Ex.o,Ex.args] at hA⊢;rw[nH _ _ _ _ _ aE] at hs
 replace hs:Says R k' (.mk xk (x1,x2,x3) xt xn xo xa) c:=by rw[HR0.o];exact hs
 have HS:=aB hs;have hz4:=HF4.o.size;have hbq:Bl w4 ((w4.alloc (.cells #[.slice (some ⟨g,0,none⟩) ts.length cap,.int .i64 (k':Int)] 54)).alloc (.cells #[.int .i64 xk,.int .i64 x1,.int .i64 x2,S x3,S xt,S xn,.int .i64 xo,.slice asv xa.length csv] 33)):=((Bl.refl w4).alloc _).alloc _;have HFq:=aB (HF4.o.next hbq);have HAq:=aB (show bG (fun b=>W.heap.size+3<=b/\True) ((w4.alloc (.cells #[.slice (some ⟨g,0,none⟩) ts.length cap,.int .i64 (k':Int)] 54)).alloc (.cells #[.int .i64 xk,.int .i64 x1,.int .i64 x2,S x3,S xt,S xn,.int .i64 xo,.slice asv xa.length csv] 33)) (.slice asv xa.length csv) xa from(hA.of fun b hl (hb:_<=b)=>⟨by simp at hb;omega,trivial⟩).bl hbq);have HAXq:=aB (show((w4.alloc (.cells #[.slice (some ⟨g,0,none⟩) ts.length cap,.int .i64 (k':Int)] 54)).alloc (.cells #[.int .i64 xk,.int .i64 x1,.int .i64 x2,S x3,S xt,S xn,.int .i64 xo,.slice asv xa.length csv] 33)).heap[w4.heap.size]?=some (.cells #[.slice (some ⟨g,0,none⟩) ts.length cap,.int .i64 (k':Int)] 54 (0,0))/\((w4.alloc (.cells #[.slice (some ⟨g,0,none⟩) ts.length cap,.int .i64 (k':Int)] 54)).alloc (.cells #[.int .i64 xk,.int .i64 x1,.int .i64 x2,S x3,S xt,S xn,.int .i64 xo,.slice asv xa.length csv] 33)).heap[w4.heap.size+1]?=some (.cells #[.int .i64 xk,.int .i64 x1,.int .i64 x2,S x3,S xt,S xn,.int .i64 xo,.slice asv xa.length csv] 33 (0,0)) from⟨(aW _ _ aa).trans (aN w4 _),aV _ _ aa⟩);have HKK:=aB hk';clear hA hs hk' hb4 hbq;by_cases hc0:c=0
 ·subst hc0;have hRg:=aB HS.o.yes;clear HS;go_wp2_with fail;refine wp_region_noPanic (bM (fun B=>B.heap[w4.heap.size]?=some (.cells #[.slice (some ⟨g,0,none⟩) ts.length cap,.int .i64 (k':Int)] 54 (0,0))/\B.heap[w4.heap.size+1]?=some (.cells #[.int .i64 xk,.int .i64 x1,.int .i64 x2,S x3,S xt,S xn,.int .i64 xo,.slice asv xa.length csv] 33 (0,0))) ((.take 0 (.take 1 (.one 2 (.one 3 (.take 4 .done)))))) ab ab ab (fun _ _ _ _ _ h=>h) (bK HAXq.o ((Bl.refl _).drew)) ?_);intro wd HWD hY;iterate 2 (refine cT ?_)
  obtain⟨r0,r1,z0,z1,hlr⟩:=aU (HFq.o.next HWD.o).r;refine aL rfl (fun K hK=>?_);go_simp;refine hK.o _ _ ((eG (b:=W.heap.size+1) hY aE aE)) ?_;clear hY hK K;intro hY;clear r0 r1 z0 z1;obtain⟨⟨e0,e1,e2,e3,e4,e5,e6,e7⟩,f0,f1,f2,f3,f4,f5,f6,f7⟩:=eight ((cO wd (b:=W.heap.size+1) (i:=W.heap.size+1+1) aE (.slice (some ⟨g,0,none⟩) ts.length cap) (.int .i64 (k':Int))).trans (HFq.o.next HWD.o).x);refine aL rfl (fun K hK=>?_);go_simp;refine hK.o _ _ ((kF (b:=W.heap.size+1+1) hY aE aE)) ?_;clear hY hK K;intro hY;refine cT ?_;refine fO (bF ?_);go_wp2;obtain⟨⟨q0,q1⟩,q2,q3,q4,q5,q6,q7,q8,q9⟩:=fG (b:=W.heap.size+1) (c:=W.heap.size+1+1) aE (HFq.o.next HWD.o).r (HFq.o.next HWD.o).x (.slice (some ⟨g,0,none⟩) ts.length cap) (.int .i64 (k':Int)) (.int .i64 xk) (.int .i64 x1) (.int .i64 x2) (S x3) (S xt) (S xn) (.int .i64 xo) (.slice asv xa.length csv);have hX:gM _ _ (.mk xk (x1,x2,x3) xt xn xo xa) (EV xk (x1,x2,x3) xt xn xo (.slice asv xa.length csv)):=⟨_,rfl,HAq.o.bl HWD.o⟩
  refine bodyPost_ret (v:= .tuple #[RS g ts.length cap k',EV xk (x1,x2,x3) xt xn xo (.slice asv xa.length csv),.int .i64 0]) (by simp[results,results123,go_sem,q0,q1,q2,q3,q4,q5,q6,q7,q8,q9]) rfl (HP.o _ _ ?_);rw[hRg.o];exact⟨_,HKK.o,iY hX (fun i hi=>⟨by have:=hi.1;omega,by have:=hi.1;omega,by have:=hi.1;omega⟩) _ _ _ _ _ _ _ _ _ _,rfl,lS (HFq.o.next HWD.o).bl aE aE _ _ _ _ _ _ _ _ _ _⟩
 ·have hcb:(c==0)=false:=by simpa using hc0
  have hcb':(c != 0)=true:=ap;have hRb:=aB (HS.o.no hc0);clear HS;obtain⟨s0,s1,-,-,-⟩:=aU HFq.o.s;obtain⟨r0,r1,z0,z1,hlr⟩:=aU HFq.o.r;obtain⟨⟨e0,e1,e2,e3,e4,e5,e6,e7⟩,f0,f1,f2,f3,f4,f5,f6,f7⟩:=eight HFq.o.x;go_wp2;obtain⟨⟨q0,q1⟩,q2,q3,q4,q5,q6,q7,q8,q9⟩:=fG (b:=W.heap.size+1) (c:=W.heap.size+1+1) aE HFq.o.r HFq.o.x (.slice (some ⟨g,0,none⟩) ts.length cap) (.int .i64 (k:Int)) (.int .i64 0) (.int .i64 0) (.int .i64 0) (S []) (S []) (S []) (.int .i64 0) (.slice none 0 0);refine bodyPost_ret (v:= .tuple #[RS g ts.length cap k,EV 0 (0,0,[]) [] [] 0 (.slice none 0 0),.int .i64 c]) (by simp[results,results123,go_sem,q0,q1,q2,q3,q4,q5,q6,q7,q8,q9]) rfl (HP.o _ _ ?_);rw[hRb.o.2];exact⟨hRb.o.1,rfl,lS HFq.o.bl aE aE _ _ _ _ _ _ _ _ _ _⟩
end
section
end
section
end
section
theorem Bl.but{W A B:World}{b:Nat}(h:Bl W A)(hB:But b A B)(hb:W.heap.size<=b):Bl W B:=iL h hB.grown h.size fun k e=>by injection e with e;omega
def e5v{α:Type}(Z:World->Value->Prop)(R:World->α->Value->Prop)(g cap:Nat)(ts:List Tok)(W:World)(r:d2u α)(e:Ending)(w':World):Prop:=
 Bl W w'/\∃k v c,k<ts.length/\e= .returned (.tuple #[RS g ts.length cap k,v,.int .i64 c])/\((c=0/\∃x,r= .good k x/\R w' x v)\/((c=260\/c=261\/c=270)/\r= .bad c/\Z w' v))
theorem e5v.yes{α:Type}{Z:World->Value->Prop}{R:World->α->Value->Prop}{g cap:Nat}{ts:List Tok}{W:World}{r:d2u α}{w':World}{k:Nat}{x:α}{v:Value}(hb:Bl W w')(hk:k<ts.length)(hr:r= .good k x)(hx:R w' x v):e5v Z R g cap ts W r (.returned (.tuple #[RS g ts.length cap k,v,.int .i64 0])) w':=
 ⟨hb,k,v,0,hk,rfl,.inl ⟨rfl,x,hr,hx⟩⟩
theorem e5v.no{α:Type}{Z:World->Value->Prop}{R:World->α->Value->Prop}{g cap:Nat}{ts:List Tok}{W:World}{r:d2u α}{w':World}{k:Nat}{c:Int}{v:Value}(hb:Bl W w')(hk:k<ts.length)(hc:c=260\/c=261\/c=270)(hr:r= .bad c)(hz:Z w' v):e5v Z R g cap ts W r (.returned (.tuple #[RS g ts.length cap k,v,.int .i64 c])) w':=
 ⟨hb,k,v,c,hk,rfl,.inr ⟨hc,hr,hz⟩⟩
abbrev sC(g n cap k:Nat):List Value:=[.slice (some ⟨g,0,none⟩) n cap,.int .i64 (k:Int)]
abbrev zSt:List Value:=[.slice none 0 0,.int .i64 0]
structure Fs(W A:World)(cs rs:List Value):Prop where
 bl:Bl W A
 s:A.heap[W.heap.size]?=some (.cells cs.toArray 54 (0,0))
 r:A.heap[W.heap.size+1]?=some (.cells rs.toArray 54 (0,0))
structure Fx(W A:World)(cs rs:List Value)(T:TypeId)(xs:List Value):Prop extends Fs W A cs rs where
 x:A.heap[W.heap.size+2]?=some (.cells xs.toArray T (0,0))
section
variable {W A B:World} {cs rs ys xs:List Value} {T:TypeId} {b:Nat}
theorem lt_of_heap{o:Obj}{i:Nat}(h:A.heap[i]?=some o):i<A.heap.size:=(aC.1 h).1
theorem Fs.start(W:World)(cs:List Value):Fs W ((W.alloc (.cells cs.toArray 54)).alloc (.cells zSt.toArray 54)) cs zSt:=
 ⟨((Bl.refl W).alloc _).alloc _,(aW _ _ aa).trans (aN _ _),aV _ _ aa⟩
theorem Fx.start(W:World)(cs:List Value)(T:TypeId)(xs:List Value):Fx W (((W.alloc (.cells cs.toArray 54)).alloc (.cells zSt.toArray 54)).alloc (.cells xs.toArray T)) cs zSt T xs:=
 ⟨⟨(((Bl.refl W).alloc _).alloc _).alloc _,uA _ _ _ _,oZ _ _ _ _⟩,aV _ _ aa⟩
theorem Fs.size(h:Fs W A cs rs):W.heap.size+1<A.heap.size:=lt_of_heap h.r
theorem Fs.call(h:Fs W A cs rs)(hb:Bl A B):Fs W B cs rs:=⟨h.bl.call hb,(hb.block _ (lt_of_heap h.s)).trans h.s,(hb.block _ (lt_of_heap h.r)).trans h.r⟩
theorem Fs.putS(h:Fs W A cs rs)(hB:But W.heap.size A B)(hx:B.heap[W.heap.size]?=some (.cells ys.toArray 54 (0,0))):Fs W B ys rs:=⟨h.bl.but hB (aH _),hx,(hB.same _ aE).trans h.r⟩
theorem Fs.putR(h:Fs W A cs rs)(hB:But (W.heap.size+1) A B)(hx:B.heap[W.heap.size+1]?=some (.cells ys.toArray 54 (0,0))):Fs W B cs ys:=⟨h.bl.but hB aE,(hB.same _ aE).trans h.s,hx⟩
theorem Fs.other(h:Fs W A cs rs)(hB:But b A B)(hb:W.heap.size+2<=b):Fs W B cs rs:=⟨h.bl.but hB aE,(hB.same _ aE).trans h.s,(hB.same _ aE).trans h.r⟩
theorem Fx.size(h:Fx W A cs rs T xs):W.heap.size+2<A.heap.size:=lt_of_heap h.x
theorem Fx.call(h:Fx W A cs rs T xs)(hb:Bl A B):Fx W B cs rs T xs:=⟨h.toFs.call hb,(hb.block _ (lt_of_heap h.x)).trans h.x⟩
theorem Fx.putS(h:Fx W A cs rs T xs)(hB:But W.heap.size A B)(hx:B.heap[W.heap.size]?=some (.cells ys.toArray 54 (0,0))):Fx W B ys rs T xs:=⟨h.toFs.putS hB hx,(hB.same _ aE).trans h.x⟩
theorem Fx.putR(h:Fx W A cs rs T xs)(hB:But (W.heap.size+1) A B)(hx:B.heap[W.heap.size+1]?=some (.cells ys.toArray 54 (0,0))):Fx W B cs ys T xs:=⟨h.toFs.putR hB hx,(hB.same _ aE).trans h.x⟩
theorem Fx.putX(h:Fx W A cs rs T xs)(hB:But (W.heap.size+2) A B)(hx:B.heap[W.heap.size+2]?=some (.cells ys.toArray T (0,0))):Fx W B cs rs T ys:=⟨h.toFs.other hB (aH _),hx⟩
theorem Fx.other(h:Fx W A cs rs T xs)(hB:But b A B)(hb:W.heap.size+3<=b):Fx W B cs rs T xs:=⟨h.toFs.other hB aE,(hB.same _ aE).trans h.x⟩
end
theorem d2j:(prog.info? 54).map (·.size)=some 2:=by kernel_rfl
theorem eD{P:Program}{o:Oper}{a:Act}{w:World}{ty:TypeId}{x:Operand}{g:Nat}{t:TypeId}{cs:Array Value}{fr:Nat×Nat}{d:TypeDesc}(ho:o.op= .load ty x)(hx:a.eval x= .pointer (some ⟨g,0,none⟩))(hg:w.heap[g]?=some (.cells cs t fr))
  (hu:P.underlying ty=some d) (hd:(match d with | .struct _| .array _ _=>true|_=>false)=true) (hi:(P.info? ty).map (·.size)=some cs.size):(execOp a.eval o).run P w= .ok (.value (.agg cs)) w:=by
 unfold execOp;simp only[ho,hx,Instr.loadAt,Instr.sureAddr,Sem.run_bind,Sem.run_pure,Result.andThen_ok,run_loadVar_row w g t ty cs fr d hg hu hd hi]
theorem Fs.results{W A:World}{cs rs:List Value}{fn:Func}{p:Tmp}{q r:Tmp}{tmps:Array Value}(h:Fs W A cs rs)(hr:fn.results= #[.cell p 54,.tmp q,.tmp r])(hp:tmps.getD p undef= .pointer (some ⟨W.heap.size+1,0,none⟩))(hl:rs.length=2):
  (results fn tmps).run prog A= .ok (.tuple #[.agg rs.toArray,tmps.getD q undef,tmps.getD r undef]) A:=by
 have hp':tmps[p]?.getD undef= .pointer (some ⟨W.heap.size+1,0,none⟩):=cR;have h1:=run_loadVar_row (P:=prog) A _ 54 54 rs.toArray (0,0) _ h.r underlying54 rfl (by simpa[hl] using d2j);simp[Go.results,hr,hp',asAddr,h1]
theorem Fx.results{W A:World}{cs rs:List Value}{T:TypeId}{xs:List Value}{d:TypeDesc}{fn:Func}{p q:Tmp}{r:Tmp}{tmps:Array Value}(h:Fx W A cs rs T xs)(hr:fn.results= #[.cell p 54,.cell q T,.tmp r])(hp:tmps.getD p undef= .pointer (some ⟨W.heap.size+1,0,none⟩))(hq:tmps.getD q undef= .pointer (some ⟨W.heap.size+2,0,none⟩))(hl:rs.length=2)
  (hu:prog.underlying T=some d) (hd:(match d with | .struct _| .array _ _=>true|_=>false)=true) (hi:(prog.info? T).map (·.size)=some xs.length):(results fn tmps).run prog A= .ok (.tuple #[.agg rs.toArray,.agg xs.toArray,tmps.getD r undef]) A:=by
 have hp':tmps[p]?.getD undef= .pointer (some ⟨W.heap.size+1,0,none⟩):=cR;have hq':tmps[q]?.getD undef= .pointer (some ⟨W.heap.size+2,0,none⟩):=(by simpa using hq);have h1:=run_loadVar_row (P:=prog) A _ 54 54 rs.toArray (0,0) _ h.r underlying54 rfl (by simpa[hl] using d2j);have h2:=run_loadVar_row (P:=prog) A _ T T xs.toArray (0,0) d h.x hu ed (by simpa using hi);simp[Go.results,hr,hp',hq',asAddr,h1,h2]
theorem pV{A B:World}{b i j:Nat}{x y:Option Obj}(h:A.heap[i]?=x/\A.heap[j]?=y)(hB:But b A B)(h1:i≠b)(h2:j≠b):B.heap[i]?=x/\B.heap[j]?=y:=⟨(hB.same i h1).trans h.1,(hB.same j h2).trans h.2⟩
theorem eB{A B:World}{i j:Nat}{x y:Obj}(h:A.heap[i]?=some x/\A.heap[j]?=some y)(hb:Bl A B):B.heap[i]?=some x/\B.heap[j]?=some y:=⟨(hb.block i (lt_of_heap h.1)).trans h.1,(hb.block j (lt_of_heap h.2)).trans h.2⟩
theorem e3e{W:World}{g cap k:Nat}{ts:List Tok}(h:Row W g ts)(hfew:ts.length<=100000)(hk:k<ts.length):eu 122 #[RS g ts.length cap k] W fun e w'=>Bl W w'/\∃k' n b,k'<ts.length/\e= .returned (.tuple #[RS g ts.length cap k',S n,.bool b])/\((b=true/\mM ts k=some (n,k'))\/(b=false/\mM ts k=none/\k'=k/\n=[])):=by
 obtain⟨x,hx⟩:∃x,ts[k]?=some x:=⟨_,aP hk⟩
 refine(tK h hfew hx).mono ?_;rintro e w' ⟨hb,(⟨h1,rfl⟩|⟨h1,rfl⟩)⟩
 ·exact⟨hb,_,_,_,wE hk,rfl,.inl ⟨rfl,by unfold mM;rw[hx];simp[h1]⟩⟩
 ·exact⟨hb,_,_,_,hk,rfl,.inr ⟨rfl,by unfold mM;rw[hx];simp[h1],rfl,rfl⟩⟩
theorem d2x(g cap:Nat)(ts:List Tok)(k:Nat)(xs:List (List UInt8)):mU g cap ts k xs= .returned (.tuple #[RS g ts.length cap ((bH ts k xs).getD k),.bool (bH ts k xs).isSome]):=by
 unfold mU;cases bH ts k xs<;>rfl
theorem d8k{W:World}{g cap k:Nat}{ts:List Tok}(h:Row W g ts)(hT:lC ts)(hfew:ts.length<=100000)(hk:k<ts.length):eu 123 #[RS g ts.length cap k] W fun e w'=>Bl W w'/\∃k' c xk x1 x2 x3 xt xn xo xa asv csv,k'<ts.length/\e= .returned (.tuple #[RS g ts.length cap k',EV xk (x1,x2,x3) xt xn xo (.slice asv xa.length csv),.int .i64 c])/\
  tT W.heap.size w' (.slice asv xa.length csv) xa/\((c=0/\d3j ts k= .good k' (.mk xk (x1,x2,x3) xt xn xo xa))\/((c=260\/c=261\/c=270)/\d3j ts k= .bad c)):=by
 refine(b3y h hT hfew hk).mono ?_;intro e w' hp;unfold b3u at hp;unfold d3j;cases hr:uD ts k with
 |o=>rw[hr] at hp;exact hp.elim
 |bad c=>
  rw[hr] at hp;obtain⟨hc,rfl,hb⟩:=hp;exact⟨hb,k,c,0,0,0,[],[],[],0,[],none,0,hk,rfl,bG.nil _ _ _ _,.inr ⟨hc.imp id Or.inl,rfl⟩⟩
 |good k' x=>
  rw[hr] at hp;obtain⟨v,hk',⟨sv,rfl,hA⟩,rfl,hb⟩:=hp;obtain⟨xk,⟨x1,x2,x3⟩,xt,xn,xo,xa⟩:=x;obtain⟨a,c,rfl⟩:=hA.shape;exact⟨hb,k',0,xk,x1,x2,x3,xt,xn,xo,xa,a,c,hk',rfl,hA,.inl ⟨rfl,rfl⟩⟩
theorem d7b{W:World}{g cap k:Nat}{ts:List Tok}(h:Row W g ts)(hfew:ts.length<=100000)(hk:k<ts.length):eu 124 #[RS g ts.length cap k] W fun e w'=>Bl W w'/\∃k' n c,k'<ts.length/\e= .returned (.tuple #[RS g ts.length cap k',S n,.int .i64 c])/\((c=0/\asR ts k= .good k' n)\/((c=260\/c=261\/c=270)/\asR ts k= .bad c)):=by
 obtain⟨R,HR⟩:∃R,Hid (R=asR ts k):=⟨_,rfl⟩
 rw[<-HR.o];have H:=aB h;have HK:=aB hk;have HF0:=aB (Fs.start W (sC g ts.length cap k));clear h hk;go_enter func124,ntmps124;go_wp2_with fail;refine(dH H.o (HF0.o.bl.alloc _) hfew HK.o 1 [wAs] rfl aa (aV _ _ aa)).mono ?_;rintro e w1 ⟨rfl,hb1⟩;have HF1:=aB (HF0.o.call (((Bl.refl _).alloc _).call hb1));clear hb1;rw[d2x];cases ht:bH ts k [wAs] with
 |none=>
  have HE:=aB (show R= .good k [] from by rw[HR.o];unfold asR;rw[ht]);have HF2:=aB (HF1.o.call ((Bl.refl w1).alloc (.cells (sC g ts.length cap k).toArray 54)));obtain⟨s0,s1,-,-,-⟩:=aU HF2.o.s;clear ht;go_wp2_with (refine bA rfl rfl rfl rfl (sC g ts.length cap k) HF2.o.r rfl rfl d2j rfl ?_)
  intro w3 hB3 hX3;have HF3:=aB (HF2.o.putR hB3 hX3);clear hB3 hX3 s0 s1;go_wp2;exact bodyPost_ret (HF3.o.results rfl rfl rfl) rfl ⟨HF3.o.bl,_,_,_,HK.o,rfl,.inl ⟨rfl,HE.o⟩⟩
 |some k1=>
  have hk1:=b8z HK.o ht;have HT:=aB ht;have HF2:=aB (HF1.o.call ((Bl.refl w1).alloc (.cells (sC g ts.length cap k1).toArray 54)));have HX2:=aB (aN w1 (.cells (sC g ts.length cap k1).toArray 54));obtain⟨s0,s1,-,-,-⟩:=aU HX2.o;have HZ:=aB HF1.o.size;clear ht;go_wp2_with fail;refine(e3e (H.o.bl HF2.o.bl) hfew hk1).mono ?_;rintro e w3 ⟨hb3,k3,n,b,hk3,rfl,hcase⟩;have HF3:=aB (HF2.o.call hb3);have HX3:=aB ((hb3.block _ aa).trans HX2.o);have HC:=aB hcase;clear hb3 hcase s0 s1;go_wp2_with (refine bA rfl rfl rfl rfl (sC g ts.length cap k3) HX3.o rfl rfl d2j rfl ?_)
  intro w4 hB4 hX4;have HF4:=aB (HF3.o.other hB4 (by have:=HZ.o;omega));obtain⟨s0,s1,-,-,-⟩:=aU hX4;clear hB4;rcases HC.o with⟨rfl,hn⟩|⟨rfl,hn,rfl,rfl⟩
  ·have HE:=aB (show R= .good k3 n from by rw[HR.o];unfold asR;rw[HT.o];simp only;rw[hn]);clear hn HC;go_wp2_with (refine bA rfl rfl rfl rfl (sC g ts.length cap k3) HF4.o.r rfl rfl d2j rfl ?_)
   intro w5 hB5 hX5;have HF5:=aB (HF4.o.putR hB5 hX5);clear hB5 hX5 s0 s1;go_wp2;exact bodyPost_ret (HF5.o.results rfl rfl rfl) rfl ⟨HF5.o.bl,_,_,_,hk3,rfl,.inl ⟨rfl,HE.o⟩⟩
  ·have HE:=aB (show R= .bad 261 from by rw[HR.o];unfold asR;rw[HT.o];simp only;rw[hn]);clear hn HC;go_wp2_with (refine bA rfl rfl rfl rfl (sC g ts.length cap k3) HF4.o.r rfl rfl d2j rfl ?_)
   intro w5 hB5 hX5;have HF5:=aB (HF4.o.putR hB5 hX5);clear hB5 hX5 s0 s1;go_wp2;exact bodyPost_ret (HF5.o.results rfl rfl rfl) rfl ⟨HF5.o.bl,_,_,_,hk3,rfl,.inr ⟨.inr (.inl rfl),HE.o⟩⟩
theorem d4y{W:World}{g cap k:Nat}{ts:List Tok}(h:Row W g ts)(hfew:ts.length<=100000)(hk:k<ts.length):eu 131 #[RS g ts.length cap k] W fun e w'=>Bl W w'/\∃k' s c,k'<ts.length/\e= .returned (.tuple #[RS g ts.length cap k',.agg #[S (So.t s),S (So.al s)],.int .i64 c])/\((c=0/\d3b ts k= .good k' s)\/((c=260\/c=261\/c=270)/\d3b ts k= .bad c)):=by
 obtain⟨R,HR⟩:∃R,Hid (R=d3b ts k):=⟨_,rfl⟩
 rw[<-HR.o];have H:=aB h;have HF0:=aB (Fx.start W (sC g ts.length cap k) 24 [S [],S []]);obtain⟨s0,s1,-,-,-⟩:=aU HF0.o.s;clear h;go_enter func131,ntmps131;go_wp2_with fail;refine(e3e (H.o.bl HF0.o.bl) hfew hk).mono ?_;rintro e w1 ⟨hb1,k1,n,b,hk1,rfl,hcase⟩;have HF1:=aB (HF0.o.call hb1);have HC:=aB hcase;clear hb1 hcase s0 s1;go_wp2_with (refine bA rfl rfl rfl rfl (sC g ts.length cap k1) HF1.o.s rfl rfl d2j rfl ?_)
 intro w2 hB2 hX2;have HF2:=aB (HF1.o.putS hB2 hX2);obtain⟨s0,s1,-,-,-⟩:=aU hX2;clear hB2 hX2;rcases HC.o with⟨rfl,hn⟩|⟨rfl,hn,rfl,rfl⟩
 ·have HN:=aB hn;clear hn HC;go_wp2_with fail;refine(d7b (H.o.bl HF2.o.bl) hfew hk1).mono ?_;rintro e w3 ⟨hb3,k3,al,c,hk3,rfl,hcase⟩;have HF3:=aB (HF2.o.call hb3);have HC:=aB hcase;clear hb3 hcase s0 s1;go_wp2_with (refine bA rfl rfl rfl rfl (sC g ts.length cap k3) HF3.o.s rfl rfl d2j rfl ?_)
  intro w4 hB4 hX4;have HF4:=aB (HF3.o.putS hB4 hX4);obtain⟨s0,s1,-,-,-⟩:=aU hX4;clear hB4 hX4;go_wp2_with (refine bA rfl rfl rfl rfl (sC g ts.length cap k3) HF4.o.r rfl rfl d2j rfl ?_)
  intro w5 hB5 hX5;have HF5:=aB (HF4.o.putR hB5 hX5);clear hB5 hX5 s0 s1;go_wp2_with (refine bA rfl rfl rfl rfl [S n,S al] HF5.o.x rfl rfl d7e rfl ?_)
  intro w6 hB6 hX6;have HF6:=aB (HF5.o.putX hB6 hX6);clear hB6 hX6;go_wp2;refine bodyPost_ret (HF6.o.results rfl rfl rfl rfl underlying24 rfl d7e) rfl ⟨HF6.o.bl,k3,⟨n,al⟩,c,hk3,rfl,?_⟩;rw[HR.o,d4h];unfold e0k;rw[HN.o];simp only[d2u.bind];rcases HC.o with⟨hc,h⟩|⟨hc,h⟩
  ·exact .inl ⟨hc,by rw[h]⟩
  ·exact .inr ⟨hc,by rw[h]⟩
 ·have HE:=aB (show R= .bad 261 from by rw[HR.o,d4h];unfold e0k;rw[hn];rfl);clear hn HC;go_wp2_with (refine bA rfl rfl rfl rfl (sC g ts.length cap k1) HF2.o.r rfl rfl d2j rfl ?_)
  intro w5 hB5 hX5;have HF5:=aB (HF2.o.putR hB5 hX5);clear hB5 hX5 s0 s1;go_wp2_with (refine bA rfl rfl rfl rfl [S [],S []] HF5.o.x rfl rfl d7e rfl ?_)
  intro w6 hB6 hX6;have HF6:=aB (HF5.o.putX hB6 hX6);clear hB6 hX6;go_wp2;exact bodyPost_ret (HF6.o.results rfl rfl rfl rfl underlying24 rfl d7e) rfl ⟨HF6.o.bl,k1,⟨[],[]⟩,_,hk1,rfl,.inr ⟨.inr (.inl rfl),HE.o⟩⟩
abbrev xCs(xk x1 x2:Int)(x3 xt xn:List UInt8)(xo:Int)(s:Value):List Value:=[.int .i64 xk,.int .i64 x1,.int .i64 x2,S x3,S xt,S xn,.int .i64 xo,s]
theorem d5m{W:World}{g cap k:Nat}{ts:List Tok}(h:Row W g ts)(hT:lC ts)(hfew:ts.length<=100000)(hk:k<ts.length)(s:List UInt8):eu 132 #[RS g ts.length cap k,S s] W fun e w'=>Bl W w'/\∃k' c xk x1 x2 x3 xt xn xo xa asv csv,k'<ts.length/\e= .returned (.tuple #[RS g ts.length cap k',EV xk (x1,x2,x3) xt xn xo (.slice asv xa.length csv),.int .i64 c])/\
  tT W.heap.size w' (.slice asv xa.length csv) xa/\((c=0/\d3s ts s k= .good k' (.mk xk (x1,x2,x3) xt xn xo xa))\/((c=260\/c=261\/c=270)/\d3s ts s k= .bad c)):=by
 obtain⟨R,HR⟩:∃R,Hid (R=d3s ts s k):=⟨_,rfl⟩
 rw[<-HR.o];have H:=aB h;have HK:=aB hk;have HTK:=aB hT;have HF0:=aB (Fx.start W (sC g ts.length cap k) 33 (xCs 0 0 0 [] [] [] 0 (.slice none 0 0)));clear h hk hT;go_enter func132,ntmps132;go_wp2_with fail;refine(dH H.o ((HF0).o.bl.alloc _) hfew HK.o 1 [s] rfl aa (aV _ _ aa)).mono ?_;rintro e w1 ⟨rfl,hb1⟩;have HF1:=aB ((HF0).o.call (((Bl.refl _).alloc _).call hb1));clear hb1;rw[d2x];cases ht:bH ts k [s] with
 |none=>
  have HE:=aB (show R= .good k zeroE from by rw[HR.o];unfold d3s;rw[ht]);have HF2:=aB (HF1.o.call ((Bl.refl w1).alloc (.cells (sC g ts.length cap k).toArray 54)));obtain⟨s0,s1,-,-,-⟩:=aU HF2.o.s;clear ht;go_wp2_with (refine bA rfl rfl rfl rfl (sC g ts.length cap k) (HF2).o.r rfl rfl d2j rfl ?_)
  intro w8 hB8 hX8;have HF8:=aB ((HF2).o.putR hB8 hX8);clear hX8;go_wp2_with (refine bA rfl rfl rfl rfl (xCs 0 0 0 [] [] [] 0 (.slice none 0 0)) HF8.o.x rfl rfl d4b rfl ?_)
  intro w9 hB9 hX9;have HF9:=aB (HF8.o.putX hB9 hX9);clear hX9;go_wp2;refine bodyPost_ret (HF9.o.results rfl rfl rfl rfl underlying33 rfl d4b) rfl ?_;exact⟨HF9.o.bl,k,0,0,0,0,[],[],[],0,[],none,0,HK.o,rfl,bG.nil _ _ _ _,.inl ⟨rfl,HE.o⟩⟩
 |some k1=>
  have hk1:=b8z HK.o ht;have HE:=aB (show R=d3j ts k1 from by rw[HR.o];unfold d3s;rw[ht]);have HF2:=aB (HF1.o.call ((Bl.refl w1).alloc (.cells (sC g ts.length cap k1).toArray 54)));have HX2:=aB (aN w1 (.cells (sC g ts.length cap k1).toArray 54));obtain⟨s0,s1,-,-,-⟩:=aU HX2.o;clear ht;go_wp2_with fail;refine(d8k (H.o.bl HF2.o.bl) HTK.o hfew hk1).mono ?_;rintro e w3 ⟨hb3,k3,c,xk,x1,x2,x3,xt,xn,xo,xa,asv,csv,hk3,rfl,hA,hcase⟩;have HF3:=aB (HF2.o.call hb3);have HC:=aB hcase;have hz2:=HF2.o.size;have HA3:=aB (show bG (fun b=>W.heap.size+3<=b) w3 (.slice asv xa.length csv) xa from hA.of fun b _ (hb:_<=b)=>by omega);clear hb3 hcase hA s0 s1;go_wp2_with (refine bA rfl rfl rfl rfl (sC g ts.length cap k3) (HF3).o.r rfl rfl d2j rfl ?_)
  intro w8 hB8 hX8;have HF8:=aB ((HF3).o.putR hB8 hX8);clear hX8;go_wp2_with (refine bA rfl rfl rfl rfl (xCs xk x1 x2 x3 xt xn xo (.slice asv xa.length csv)) HF8.o.x rfl rfl d4b rfl ?_)
  intro w9 hB9 hX9;have HF9:=aB (HF8.o.putX hB9 hX9);clear hX9;go_wp2;refine bodyPost_ret (HF9.o.results rfl rfl rfl rfl underlying33 rfl d4b) rfl ?_;refine⟨HF9.o.bl,k3,c,xk,x1,x2,x3,xt,xn,xo,xa,asv,csv,hk3,rfl,(((HA3.o.but hB8 (fun i hi=>by omega)).but hB9 (fun i hi=>by omega)).of fun b _ (hb:_<=b)=>by show _<=b;omega),?_⟩;rw[HE.o];exact HC.o
abbrev zItL:List Value:=[.bool false,S [],.int .i64 0,.int .i64 0,.int .i64 0,S [],S [],S [],.int .i64 0,.slice none 0 0,S []]
def e6i(g cap:Nat)(ts:List Tok)(W:World)(r:d2u It)(e:Ending)(w':World):Prop:=Bl W w'/\∃k' it s c,k'<ts.length/\e= .returned (.tuple #[RS g ts.length cap k',.agg (fIt.cells it s).toArray,.int .i64 c])/\tT W.heap.size w' s it.x.args/\((c=0/\r= .good k' it)\/((c=260\/c=261\/c=270)/\r= .bad c))
theorem d8j{W:World}{g cap k:Nat}{ts:List Tok}(h:Row W g ts)(hT:lC ts)(hfew:ts.length<=100000)(hk:k<ts.length):eu 57 #[RS g ts.length cap k] W (e6i g cap ts W (d3x ts k)):=by
 obtain⟨R,HR⟩:∃R,Hid (R=d3x ts k):=⟨_,rfl⟩
 rw[<-HR.o];have H:=aB h;have HK:=aB hk;have HTK:=aB hT;have HF0:=aB (Fx.start W (sC g ts.length cap k) 91 zItL);clear h hk hT;go_enter func57,ntmps57;go_wp2_with fail;refine(dH H.o ((HF0).o.bl.alloc _) hfew HK.o 1 [[42]] rfl aa (aV _ _ aa)).mono ?_;rintro e w1 ⟨rfl,hb1⟩;have HF1:=aB ((HF0).o.call (((Bl.refl _).alloc _).call hb1));clear hb1;rw[d2x];cases ht:bH ts k [[42]] with
 |some k1=>
  have hk1:=b8z HK.o ht;have HE:=aB (show R= .good k1 ⟨true,[],zeroE,[]⟩ from by rw[HR.o];unfold d3x;rw[ht]);have HF2:=aB (HF1.o.call ((Bl.refl w1).alloc (.cells (sC g ts.length cap k1).toArray 54)));obtain⟨s0,s1,-,-,-⟩:=aU (aN w1 (.cells (sC g ts.length cap k1).toArray 54));clear ht;go_wp2_with (refine bA rfl rfl rfl rfl (sC g ts.length cap k1) (HF2).o.r rfl rfl d2j rfl ?_)
  intro w8 hB8 hX8;have HF8:=aB ((HF2).o.putR hB8 hX8);clear hX8;go_wp2_with (refine bA rfl rfl rfl rfl (fIt.cells ⟨true,[],zeroE,[]⟩ (.slice none 0 0)) HF8.o.x rfl rfl d3l rfl ?_)
  intro w9 hB9 hX9;have HF9:=aB (HF8.o.putX hB9 hX9);clear hX9;go_wp2;refine bodyPost_ret (HF9.o.results rfl rfl rfl rfl underlying91 rfl d3l) rfl ?_;exact⟨HF9.o.bl,k1,⟨true,[],zeroE,[]⟩,_,0,hk1,rfl,bG.nil _ _ _ _,.inl ⟨rfl,HE.o⟩⟩
 |none=>
  have HT:=aB ht;have HF2:=aB (HF1.o.call ((Bl.refl w1).alloc (.cells (sC g ts.length cap k).toArray 54)));obtain⟨s0,s1,-,-,-⟩:=aU HF2.o.s;clear ht;go_wp2_with fail;refine(e3e (H.o.bl HF2.o.bl) hfew HK.o).mono ?_;rintro e w3 ⟨hb3,k3,n,b,hk3,rfl,hcase⟩;have HF3:=aB (HF2.o.call hb3);have HC:=aB hcase;clear hb3 hcase s0 s1;have HF4:=aB (HF3.o.call ((Bl.refl w3).alloc (.cells (sC g ts.length cap k3).toArray 54)));have HX4:=aB (aN w3 (.cells (sC g ts.length cap k3).toArray 54))
  go_upto_if 30 with fail
  go_cut [] from 15 (fun wc=>Hid (Fx W wc (sC g ts.length cap k) zSt 91 zItL)/\Hid (R=(d3j ts k).bind fun k1 x=>(asR ts k1).bind fun k2 a=> .good k2 ⟨false,[],x,a⟩))
  case first=>
   rcases HC.o with⟨rfl,hn⟩|⟨rfl,hn,rfl,rfl⟩
   ·obtain⟨s0,s1,-,-,-⟩:=aU HX4.o;have HN:=aB hn;clear hn HC;go_wp2_with fail;refine(dH H.o (HF4.o.bl.alloc _) hfew hk3 2 [[46],[42]] rfl aa (aV _ _ aa)).mono ?_;rintro e w5 ⟨rfl,hb5⟩;have HF5:=aB (HF4.o.call (((Bl.refl _).alloc _).call hb5));clear hb5 s0 s1;rw[d2x];cases ht:bH ts k3 [[46],[42]] with
    |some k6=>
     have hk6:=b8z hk3 ht;have HE:=aB (show R= .good k6 ⟨true,n,zeroE,[]⟩ from by rw[HR.o];unfold d3x;rw[HT.o];simp only;rw[HN.o];simp only[bU];rw[ht];rfl);have HF6:=aB (HF5.o.call ((Bl.refl w5).alloc (.cells (sC g ts.length cap k6).toArray 54)));obtain⟨s0,s1,-,-,-⟩:=aU (aN w5 (.cells (sC g ts.length cap k6).toArray 54));clear ht;go_wp2_with (refine bA rfl rfl rfl rfl (sC g ts.length cap k6) (HF6).o.r rfl rfl d2j rfl ?_)
     intro w8 hB8 hX8;have HF8:=aB ((HF6).o.putR hB8 hX8);clear hX8;go_wp2_with (refine bA rfl rfl rfl rfl (fIt.cells ⟨true,n,zeroE,[]⟩ (.slice none 0 0)) HF8.o.x rfl rfl d3l rfl ?_)
     intro w9 hB9 hX9;have HF9:=aB (HF8.o.putX hB9 hX9);clear hX9;go_wp2;refine bodyPost_ret (HF9.o.results rfl rfl rfl rfl underlying91 rfl d3l) rfl ?_;exact⟨HF9.o.bl,k6,⟨true,n,zeroE,[]⟩,_,0,hk6,rfl,bG.nil _ _ _ _,.inl ⟨rfl,HE.o⟩⟩
    |none=>
     have HE:=aB (d6f HT.o (by rw[HN.o];simp only[bU];rw[ht];rfl));clear ht;go_wp2
     go_meet
     case rel=>exact⟨HF5.o.call ((Bl.refl w5).alloc _),HR.o.trans HE.o⟩
   ·have HE:=aB (d6f HT.o (by rw[hn];rfl));clear hn HC;go_wp2
    go_meet
    case rel=>exact⟨HF4.o,HR.o.trans HE.o⟩
  case rest=>
  obtain⟨HG0,HE0⟩:=hcut;clear HF0 HF1 HF2 HF3 HF4 HX4 HC HR HT;have HZ0:=aB HG0.o.size;obtain⟨s0,s1,-,-,-⟩:=aU HG0.o.s;go_wp2_with fail;refine(d8k (H.o.bl HG0.o.bl) HTK.o hfew HK.o).mono ?_;rintro e w5 ⟨hb5,k5,c,xk,x1,x2,x3,xt,xn,xo,xa,asv,csv,hk5,rfl,hA,hcase⟩;have HG5:=aB (HG0.o.call hb5);have HB6:=aB ((Bl.refl w5).alloc (.cells (xCs 0 0 0 [] [] [] 0 (.slice none 0 0)).toArray 33));have HG6:=aB (HG5.o.call HB6.o);have HX6:=aB (aN w5 (.cells (xCs 0 0 0 [] [] [] 0 (.slice none 0 0)).toArray 33));have HZ5:=aB HG5.o.size;have HA6:=aB ((show bG (fun b=>W.heap.size+3<=b/\b<w5.heap.size) w5 (.slice asv xa.length csv) xa from hA.of fun b hl (hb:_<=b)=>⟨by have:=HZ0.o;omega,hl⟩).bl HB6.o);have HC:=aB hcase;clear hb5 hcase hA s0 s1 HG0 HG5 HZ0;go_wp2_with (refine bA rfl rfl rfl rfl (sC g ts.length cap k5) HG6.o.s rfl rfl d2j rfl ?_)
  intro w7 hB7 hX7;have HG7:=aB (HG6.o.putS hB7 hX7);have HX7:=aB ((hB7.same w5.heap.size (by have:=HZ5.o;omega)).trans HX6.o);have HA7:=aB (HA6.o.but hB7 (fun i hi=>by omega));clear hB7 hX7 HG6 HX6 HA6 HB6;go_wp2_with (refine bA rfl rfl rfl rfl (xCs xk x1 x2 x3 xt xn xo (.slice asv xa.length csv)) HX7.o rfl rfl d4b rfl ?_)
  intro w8 hB8 hX8;have HG8:=aB (HG7.o.other hB8 (by have:=HZ5.o;omega));have HX8:=aB hX8;have HA8:=aB (HA7.o.but hB8 (fun i hi=>by omega));clear hB8 hX8 HG7 HX7 HA7;obtain⟨s0,s1,-,-,-⟩:=aU HG8.o.s;rcases HC.o with⟨rfl,hr⟩|⟨hc,hr⟩
  rotate_left
  ·have HE:=aB (show R= .bad c from by rw[HE0.o,hr];rfl);have hc0:¬c=0:=aE;have hcb:(c==0)=false:=ap;have hcb':(c != 0)=true:=ap;clear hr HC;go_wp2_with (refine bA rfl rfl rfl rfl (sC g ts.length cap k5) (HG8).o.r rfl rfl d2j rfl ?_)
   intro w8 hB8 hX8;have HF8:=aB ((HG8).o.putR hB8 hX8);clear hX8;go_wp2_with (refine bA rfl rfl rfl rfl (fIt.cells ⟨false,[],zeroE,[]⟩ (.slice none 0 0)) HF8.o.x rfl rfl d3l rfl ?_)
   intro w9 hB9 hX9;have HF9:=aB (HF8.o.putX hB9 hX9);clear hX9;go_wp2;refine bodyPost_ret (HF9.o.results rfl rfl rfl rfl underlying91 rfl d3l) rfl ?_;exact⟨HF9.o.bl,k5,⟨false,[],zeroE,[]⟩,_,c,hk5,rfl,bG.nil _ _ _ _,.inr ⟨hc,HE.o⟩⟩
  have HE:=aB (show R=(asR ts k5).bind fun k2 a=> .good k2 ⟨false,[],.mk xk (x1,x2,x3) xt xn xo xa,a⟩ from by rw[HE0.o,hr];rfl);clear hr HC HE0;go_wp2_with fail;refine(d7b (H.o.bl HG8.o.bl) hfew hk5).mono ?_;rintro e w10 ⟨hb10,k10,al,c,hk10,rfl,hcase⟩;have HG10:=aB (HG8.o.call hb10);have HX10:=aB ((hb10.block _ (lt_of_heap HX8.o)).trans HX8.o);have HA10:=aB (HA8.o.bl hb10);have HC:=aB hcase;clear hb10 hcase s0 s1 HG8 HX8 HA8;go_wp2_with (refine bA rfl rfl rfl rfl (sC g ts.length cap k10) HG10.o.s rfl rfl d2j rfl ?_)
  intro w11 hB11 hX11;have HG11:=aB (HG10.o.putS hB11 hX11);have HX11:=aB ((hB11.same w5.heap.size (by have:=HZ5.o;omega)).trans HX10.o);have HA11:=aB (HA10.o.but hB11 (fun i hi=>by omega));have hz5:=HZ5.o;clear hB11 hX11 HG10 HX10 HA10;go_wp2_with fail;refine wp_region_noPanic (bM (fun B=>B.heap[W.heap.size]?=some (.cells (sC g ts.length cap k10).toArray 54 (0,0))/\B.heap[w5.heap.size]?=some (.cells (xCs xk x1 x2 x3 xt xn xo (.slice asv xa.length csv)).toArray 33 (0,0))) ((.take 0 (.take 1 (.take 2 (.take 3 (.take 4 (.one 5 (.one 6 (.take 7 .done))))))))) ab ab ab (fun _ _ _ _ _ h=>h) (eB ⟨HG11.o.s,HX11.o⟩ ((Bl.refl _).drew)) ?_);intro wd HWD hY;refine aI rfl ae (fun w hSw=>eD rfl rfl hSw.1 underlying54 rfl d2j) ?_;(try simp only[aK,aA,aD,aF])
  refine aI rfl ae (fun w hSw=>eD rfl rfl hSw.2 underlying33 rfl d4b) ?_;(try simp only[aK,aA,aD,aF])
  iterate 3 (refine cT ?_)
  refine aL rfl (fun K hK=>?_);rw[if_pos ae];refine bC rfl rfl rfl (sC g ts.length cap k10) (HG11.o.call HWD.o).r rfl rfl d2j rfl ?_;intro w12 hB12 hX12;refine hK.o _ _ (pV hY hB12 aE aE) ?_;clear hY hK K;intro hY;(try simp only[aK])
  refine aL rfl (fun K hK=>?_);rw[if_pos ae];refine bC rfl rfl rfl (fIt.cells ⟨false,[],.mk xk (x1,x2,x3) xt xn xo xa,al⟩ (.slice asv xa.length csv)) ((HG11.o.call HWD.o).putR hB12 hX12).x rfl rfl d3l rfl ?_;intro w13 hB13 hX13;refine hK.o _ _ (pV hY hB13 aE aE) ?_;clear hY hK K;intro hY;(try simp only[aK])
  refine cT ?_;refine fO (bF ?_);have HF9:=aB (((HG11.o.call HWD.o).putR hB12 hX12).putX hB13 hX13);have HA9:=aB (((((HA11.o.bl HWD.o).but hB12 (fun i hi=>by omega)).but hB13 (fun i hi=>by omega))).of (q:=fun b=>W.heap.size<=b) fun b _ hb=>by omega);clear hB12 hX12 hB13 hX13;go_wp2;refine bodyPost_ret (HF9.o.results rfl rfl rfl rfl underlying91 rfl d3l) rfl ⟨HF9.o.bl,k10,⟨false,[],.mk xk (x1,x2,x3) xt xn xo xa,al⟩,_,c,hk10,rfl,HA9.o,?_⟩;rw[HE.o];rcases HC.o with⟨h1,h2⟩|⟨h1,h2⟩
  ·exact .inl ⟨h1,by rw[h2];rfl⟩
  ·exact .inr ⟨h1,by rw[h2];rfl⟩
end
section
def e6z{α:Type}(F:Form α)(g cap:Nat)(ts:List Tok)(W:World)(r:d2u (List α))(e:Ending)(w':World):Prop:=Bl W w'/\∃k' l v c,k'<ts.length/\e= .returned (.tuple #[RS g ts.length cap k',v,.int .i64 c])/\d2p F (fun b=>W.heap.size<=b) w' v l/\((c=0/\r= .good k' l)\/((c=260\/c=261\/c=270)/\r= .bad c/\l=[]))
theorem Fs.own{W A B:World}{cs rs:List Value}{r:Option Nat}(h:Fs W A cs rs)(hg:A.grownBy B r)(hr:∀j,r=some j->W.heap.size+2<=j):Fs W B cs rs:=
 have hz:=h.size
 ⟨iL h.bl hg h.bl.size (fun j e=>by have:=hr j e;omega),(hg.block _ aE (fun e=>by have:=hr _ e.symm;omega)).trans h.s,(hg.block _ hz (fun e=>by have:=hr _ e.symm;omega)).trans h.r⟩
abbrev iCs(st:Bool)(tt:List UInt8)(xk x1 x2:Int)(x3 xt xn:List UInt8)(xo:Int)(s:Value)(al:List UInt8):List Value:=[.bool st,S tt,.int .i64 xk,.int .i64 x1,.int .i64 x2,S x3,S xt,S xn,.int .i64 xo,s,S al]
theorem e6i.open{g cap:Nat}{ts:List Tok}{W:World}{r:d2u It}{e:Ending}{w':World}(h:e6i g cap ts W r e w'):Bl W w'/\∃k' st tt xk x1 x2 x3 xt xn xo xa asv csv al c,k'<ts.length/\e= .returned (.tuple #[RS g ts.length cap k',.agg (iCs st tt xk x1 x2 x3 xt xn xo (.slice asv xa.length csv) al).toArray,.int .i64 c])/\
  tT W.heap.size w' (.slice asv xa.length csv) xa/\((c=0/\r= .good k' ⟨st,tt,.mk xk (x1,x2,x3) xt xn xo xa,al⟩)\/((c=260\/c=261\/c=270)/\r= .bad c)):=by
 obtain⟨hb,k',⟨st,tt,⟨xk,⟨x1,x2,x3⟩,xt,xn,xo,xa⟩,al⟩,s,c,hk,he,hA,hc⟩:=h;obtain⟨a,n,rfl⟩:=hA.shape;exact⟨hb,_,_,_,_,_,_,_,_,_,_,_,_,_,_,_,hk,he,hA,hc⟩
theorem d3q{A B:World}{base b:Nat}{e:TypeId}{size n:Nat}{v:Value}{xs:List Value}(h:A.ownsRow base e size v n xs)(hb:But b A B)(hlt:b<base):B.ownsRow base e size v n xs:=
 d8t h hb (fun e=>by have:=(h.lt _ e.symm).1;omega)
theorem d7q{W:World}{g cap k:Nat}{ts:List Tok}(h:Row W g ts)(hT:lC ts)(hfew:ts.length<=100000)(hk:k<ts.length):eu 16 #[RS g ts.length cap k] W (e6z fIt g cap ts W (d7m ts k)):=by
 obtain⟨R,HR⟩:∃R,Hid (R=d7m ts k):=⟨_,rfl⟩
 rw[<-HR.o];have H:=aB h;have HK:=aB hk;have HTK:=aB hT;have HL0:=aB (show d8b ts (d3x ts) R k [] from by rw[HR.o];exact d8b.start ts _ k);have HF0:=aB (Fs.start W (sC g ts.length cap k));clear h hk hT;go_enter func16,ntmps16;go_wp2_with fail;go_loopw [5] (fun o wr=>∃(v0:Value) (kk:Nat) (acc:List (It×Value)),v0=o/\acc.length<=kk/\kk<ts.length/\Hid (Fs W wr (sC g ts.length cap kk) zSt)/\Hid (wr.ownsRow (W.heap.size+2) 91 11 v0 acc.length (d4w fIt acc))/\
  Hid (∀q∈acc,bG (fun b=>W.heap.size+2<=b/\some b≠v0.ownBlock) wr q.2 (Form.ex fIt q.1).args)/\Hid (d8b ts (d3x ts) R kk (acc.map (·.1)))) (fun _ wr=>ts.length-tH wr W.heap.size)
 case atStart=>exact⟨_,k,[],rfl,dL _,HK.o,HF0.o,d2l _ _ _ _,aB (fun q hq=>by cases hq),HL0.o⟩
 case round=>
  clear HF0 HL0 HR HK;obtain⟨v0,kk,acc,rfl,hak,hkk,HF,HO,HTR,HL⟩:=hrel;have hzr:=HF.o.size;obtain⟨s0,s1,-,-,-⟩:=aU HF.o.s;have HP:Hid (∀k1 x,d3x ts kk= .good k1 x->kk<k1/\k1<ts.length):=fun k1 x h=>d6m HTK.o hkk h;have HST:=aB (HL.o.step hkk fun k1 x h=>(HP.o k1 x h).1);go_wp2_with fail;refine(d8j (H.o.bl HF.o.bl) HTK.o hfew hkk).mono ?_;intro e w1 hp;obtain⟨hb1,k1,st,tt,xk,x1,x2,x3,xt,xn,xo,xa,asv,csv,al,c,hk1,rfl,hA,hcase⟩:=hp.open;clear hp;have hz1:=hb1.size;have HB1:=aB hb1;have HB3:=aB (((Bl.refl w1).alloc (.cells (sC g ts.length cap k1).toArray 54)).alloc (.cells (iCs st tt xk x1 x2 x3 xt xn xo (.slice asv xa.length csv) al).toArray 91));have HX3:=aB ((aW (w1.alloc (.cells (sC g ts.length cap k1).toArray 54)) (.cells (iCs st tt xk x1 x2 x3 xt xn xo (.slice asv xa.length csv) al).toArray 91) aa).trans (aN w1 _));have HY3:=aB (aV (w1.alloc (.cells (sC g ts.length cap k1).toArray 54)) (.cells (iCs st tt xk x1 x2 x3 xt xn xo (.slice asv xa.length csv) al).toArray 91) (k:=w1.heap.size+1) aa);have HF3:=aB ((HF.o.call HB1.o).call HB3.o);have hlow:=aB HO.o.lt;have HZ:=aB (hA.of (q:=fun b=>W.heap.size+2<=b/\some b≠v0.ownBlock) fun b hl (hb:_<=b)=>⟨by omega,fun e=>by have:=(hlow.o b e.symm).2;omega⟩);have HC:=aB hcase;clear hb1 hA hcase s0 s1;obtain⟨s0,s1,-,-,-⟩:=aU HX3.o;rcases HC.o with⟨rfl,hr⟩|⟨hc,hr⟩
  ·have hlt1:=HP.o _ _ hr;have HG:=aB (HST.o.2 _ _ hr);have HB4:=aB (HB3.o.alloc (.cells (iCs st tt xk x1 x2 x3 xt xn xo (.slice asv xa.length csv) al).toArray 91));clear hr HC;go_wp2_with (first |(refine wpList_load_row rfl 91 (.tmp 7) rfl (w1.heap.size+1) rfl 91 _ (0,0) _ HY3.o underlying91 rfl d3l ?_)|(at_builtin;refine d4p rfl (.tmp 21) (.tmp 23) rfl (W.heap.size+2) v0 acc rfl (gY (HB1.o.call HB4.o) HO.o) (w1.heap.size+2) ⟨st,tt,.mk xk (x1,x2,x3) xt xn xo xa,al⟩ asv xa.length csv rfl (aV _ _ aa) aE ar ?_))
   intro v' w6 hown6 hg6 hat;have HB5:=aB (HB1.o.call HB4.o);have hz5:W.heap.size+2<=wr.heap.size:=aE;have HF6:=aB ((HF.o.call HB5.o).own hg6 (fun j e=>(hlow.o j e).1));have HX6:=aB ((hg6.block w1.heap.size af (fun e=>by have:=(hlow.o _ e.symm).2;omega)).trans ((aW _ _ af).trans HX3.o));have HTR6:=aB (show ∀q∈acc++[((⟨st,tt,.mk xk (x1,x2,x3) xt xn xo xa,al⟩:It),.slice asv xa.length csv)],bG (fun b=>W.heap.size+2<=b/\some b≠v'.ownBlock) w6 q.2 (Form.ex fIt q.1).args from fun q hq=>by rcases iX.1 hq with hq|hq;exact((HTR.o q hq).bl HB5.o).own hg6 bd;obtain rfl:=gQ.1 hq;exact(HZ.o.bl HB4.o).own hg6 bd);obtain⟨gn,cn,rfl⟩:=nG hown6;have HOW6:=aB hown6;have hz6:w1.heap.size<w6.heap.size:=lt_of_heap HX6.o;clear hown6 hg6 hat s0 s1;obtain⟨s0,s1,-,-,-⟩:=aU HX6.o;go_wp2_with fail;refine(dH H.o (HF6.o.bl.alloc _) hfew hk1 1 [[44]] rfl aa (aN _ _)).mono ?_;rintro e w7 ⟨rfl,hb7⟩;have HB7:=aB (((Bl.refl w6).alloc _).call hb7);clear hb7 s0 s1;rw[d2x];cases ht:bH ts k1 [[44]] with
   |some k2=>
    have hk2:=kS HTK.o hlt1.2 ht;have HL6:=aB (HG.o.1 k2 ht hk2.1);have HB8:=aB (HB7.o.alloc (.cells (sC g ts.length cap k2).toArray 54));have HF8:=aB (HF6.o.call HB8.o);obtain⟨s0,s1,-,-,-⟩:=aU (aN w7 (.cells (sC g ts.length cap k2).toArray 54));clear ht;go_wp2_with (refine bA rfl rfl rfl rfl (sC g ts.length cap k2) HF8.o.s rfl rfl d2j rfl ?_)
    intro w9 hB9 hX9;have HF9:=aB (HF8.o.putS hB9 hX9);have HB9:=aB hB9;clear hB9 hX9 s0 s1;go_wp2;go_roundw
    case rel=>exact⟨_,k2,acc++[((⟨st,tt,.mk xk (x1,x2,x3) xt xn xo xa,al⟩:It),.slice asv xa.length csv)],rfl,by simp;omega,hk2.2,HF9.o,by rw[bD];exact d3q (gY HB8.o HOW6.o) HB9.o aE,aB (fun q hq=>((HTR6.o q hq).bl HB8.o).but HB9.o (fun i hi=>by omega)),by rw[kW];exact HL6.o⟩
    case measure=>have n1:=yN HF.o.s;have n2:=yN HF9.o.s;rw[n1,n2];omega
   |none=>
    have HE:=aB (HG.o.2 ht);have HB8:=aB (HB7.o.alloc (.cells (sC g ts.length cap k1).toArray 54));have HF8:=aB (HF6.o.call HB8.o);obtain⟨s0,s1,-,-,-⟩:=aU ((HB8.o.block _ hz6).trans HX6.o);clear ht;go_wp2_with (refine bA rfl rfl rfl rfl (sC g ts.length cap k1) HF8.o.r rfl rfl d2j rfl ?_)
    intro w9 hB9 hX9;have HF9:=aB (HF8.o.putR hB9 hX9);have hO9:=d3q (gY HB8.o HOW6.o) hB9 aE;have hl9:=hO9.lt gn rfl;have hrows:=d5z (F:=fIt) (l:=acc++[((⟨st,tt,.mk xk (x1,x2,x3) xt xn xo xa,al⟩:It),.slice asv xa.length csv)]) (p:=fun b=>W.heap.size<=b) (W:=w9) (base:=W.heap.size+2) (g:=gn) (cap:=cn) (T:=91) (by rw[bD];exact hO9) aE hl9.2 (fun q hq=>(((HTR6.o q hq).bl HB8.o).but hB9 (fun i hi=>by omega)).of fun b _ hb=>by have:=hb.1;omega);rw[bD,kW] at hrows;have HRW:=aB hrows;clear hB9 hX9 s0 s1 hO9 hl9 hrows;go_wp2;exact bodyPost_ret (HF9.o.results rfl rfl rfl) rfl ⟨HF9.o.bl,k1,_,_,0,hk1,rfl,HRW.o,.inl ⟨rfl,HE.o⟩⟩
  ·have HE:=aB (HST.o.1 c hr);have hc0:¬c=0:=aE;have hcb:(c==0)=false:=ap;have hcb':(c != 0)=true:=ap;clear hr HC;go_wp2_with (refine bA rfl rfl rfl rfl (sC g ts.length cap k1) HF3.o.r rfl rfl d2j rfl ?_)
   intro w9 hB9 hX9;have HF9:=aB (HF3.o.putR hB9 hX9);clear hB9 hX9 s0 s1;go_wp2;exact bodyPost_ret (HF9.o.results rfl rfl rfl) rfl ⟨HF9.o.bl,k1,[],_,c,hk1,rfl,d2p.nil _ _ _ _,.inr ⟨hc,HE.o,rfl⟩⟩
def d9l(ts:List Tok)(ways:Bool)(k:Nat):d2u Od:=if ways=true then d3f ts k else(d3j ts k).bind fun k1 x=> .good k1 ⟨x,false⟩
def e4f(ts:List Tok)(ws:List (List UInt8))(ways:Bool)(k:Nat):d2u (List Od):=match bH ts k ws with
 |none=> .good k []
 |some k1=>d3o ts (d9l ts ways) ts.length k1 []
theorem e3o{ts:List Tok}{ways:Bool}{k k':Nat}(hT:lC ts)(hk:k<ts.length){x:Od}(h:d9l ts ways k= .good k' x):k<k'/\k'<ts.length:=by
 unfold d9l at h;split at h
 ·exact d5t hT hk h
 ·obtain⟨k1,y,h1,h2⟩:=d2u.bind_good h;injection h2 with h2;subst h2;exact d4j hT hk h1
theorem e5d{ts:List Tok}{ways:Bool}{k:Nat}{c:Int}(h:d3j ts k= .bad c):d9l ts ways k= .bad c:=by
 unfold d9l d3f;rw[h];cases ways<;>rfl
abbrev oCs(xk x1 x2:Int)(x3 xt xn:List UInt8)(xo:Int)(s:Value)(d:Bool):List Value:=[.int .i64 xk,.int .i64 x1,.int .i64 x2,S x3,S xt,S xn,.int .i64 xo,s,.bool d]
theorem e5w:(prog.info? 80).map (·.size)=some 9:=by kernel_rfl
def bOf:Value->Bool
 | .bool b=>b
 |_=>false
theorem d4x{W:World}{g cap k:Nat}{ts:List Tok}(h:Row W g ts)(hT:lC ts)(hfew:ts.length<=100000)(hk:k<ts.length)(sv:Value)(ws:List (List UInt8))(hws:Strs W sv ws)(hm:ws.length<=1000000)(ways:Bool):
  eu 177 #[RS g ts.length cap k,sv,.bool ways] W (e6z fOd g cap ts W (e4f ts ws ways k)):=by
 obtain⟨R,HR⟩:∃R,Hid (R=e4f ts ws ways k):=⟨_,rfl⟩
 rw[<-HR.o];have H:=aB h;have HTK:=aB hT;have HW:=aB hws;have HF0:=aB (Fs.start W (sC g ts.length cap k));obtain⟨wa,wcap,rfl,-⟩:=hws.shape;obtain⟨s0,s1,-,-,-⟩:=aU HF0.o.s;clear h hT hws;go_enter func177,ntmps177;go_wp2_with fail;refine(xG (H.o.bl HF0.o.bl) hfew hk _ ws (HW.o.bl HF0.o.bl) hm).mono ?_;rintro e w1 ⟨rfl,hb1⟩;rw[d2x];have HF1:=aB (HF0.o.call hb1);have HS1:Hid (((bH ts k ws).isSome=true/\d8b ts (d9l ts ways) R ((bH ts k ws).getD k) [])\/((bH ts k ws).isSome=false/\R= .good ((bH ts k ws).getD k) [])):=by
  cases ht:bH ts k ws with
  |none=>exact .inr ⟨rfl,by rw[HR.o];unfold e4f;rw[ht];rfl⟩
  |some k1=>exact .inl ⟨rfl,by rw[HR.o];unfold e4f;rw[ht];exact d8b.start ts _ _⟩
 have hk1:(bH ts k ws).getD k<ts.length:=by
  cases ht:bH ts k ws with
  |none=>exact hk
  |some k1=>exact b8z hk ht
 generalize (bH ts k ws).isSome=b1 at *;generalize (bH ts k ws).getD k=k1 at *;clear hb1 s0 s1 HF0 HR HW;go_wp2_with (refine bA rfl rfl rfl rfl (sC g ts.length cap k1) HF1.o.s rfl rfl d2j rfl ?_)
 intro w2 hB2 hX2;have HF2:=aB (HF1.o.putS hB2 hX2);clear hB2 hX2 HF1;go_wp2_with fail;go_loopw [9,10] (fun o9 o10 wr=>∃(v0:Value) (kk:Nat) (acc:List (Od×Value)) (b:Bool),o9= .bool b/\v0=o10/\acc.length<=kk/\kk<ts.length/\Hid (Fs W wr (sC g ts.length cap kk) zSt)/\Hid (wr.ownsRow (W.heap.size+2) 80 9 v0 acc.length (d4w fOd acc))/\
  Hid (∀q∈acc,bG (fun b=>W.heap.size+2<=b/\some b≠v0.ownBlock) wr q.2 (Form.ex fOd q.1).args)/\Hid ((b=true/\d8b ts (d9l ts ways) R kk (acc.map (·.1)))\/(b=false/\R= .good kk (acc.map (·.1))))) (fun o9 _ wr=>if bOf o9=true then ts.length+1-tH wr W.heap.size else 0)
 case atStart=>exact⟨_,k1,[],b1,rfl,rfl,dL _,hk1,HF2.o,d2l _ _ _ _,aB (fun q hq=>by cases hq),HS1.o⟩
 case round=>
  clear HF2 HS1 hk hk1;obtain⟨v0,kk,acc,b,rfl,rfl,hak,hkk,HF,HO,HTR,HS⟩:=hrel;have hzr:=HF.o.size;obtain⟨s0,s1,-,-,-⟩:=aU HF.o.s;rcases HS.o with⟨rfl,hL⟩|⟨rfl,hR⟩
  rotate_left
  ·have HE:=aB hR;clear hR HS;go_wp2_with (refine bA rfl rfl rfl rfl (sC g ts.length cap kk) HF.o.r rfl rfl d2j rfl ?_)
   intro w9 hB9 hX9;have HF9:=aB (HF.o.putR hB9 hX9);have HO9:=d3q HO.o hB9 aE;have HRW9:=aB (show d2p fOd (fun b=>W.heap.size<=b) w9 v0 (acc.map (·.1)) from d4k (F:=fOd) HO9 (fun b hb _=>by omega) (fun q hq=>((HTR.o q hq).but hB9 (fun i hi=>by omega)).of fun b _ hb=>by have:=hb.1;omega));clear hB9 hX9 s0 s1 HO9;go_wp2;exact bodyPost_ret (HF9.o.results rfl rfl rfl) rfl ⟨HF9.o.bl,kk,_,_,0,hkk,rfl,HRW9.o,.inl ⟨rfl,HE.o⟩⟩
  have HP:Hid (∀k1 x,d9l ts ways kk= .good k1 x->kk<k1/\k1<ts.length):=fun k1 x h=>e3o HTK.o hkk h;have HST:=aB (hL.step hkk fun k1 x h=>(HP.o k1 x h).1);clear hL HS;go_wp2_with fail;refine(d8k (H.o.bl HF.o.bl) HTK.o hfew hkk).mono ?_;rintro e w1 ⟨hb1,k1,c,xk,x1,x2,x3,xt,xn,xo,xa,asv,csv,hk1,rfl,hA,hcase⟩;have hz1:=hb1.size;have HB1:=aB hb1;have HB3:=aB (((Bl.refl w1).alloc (.cells (sC g ts.length cap k1).toArray 54)).alloc (.cells (xCs xk x1 x2 x3 xt xn xo (.slice asv xa.length csv)).toArray 33));have HX3:=aB ((aW (w1.alloc (.cells (sC g ts.length cap k1).toArray 54)) (.cells (xCs xk x1 x2 x3 xt xn xo (.slice asv xa.length csv)).toArray 33) aa).trans (aN w1 _));have HY3:=aB (aV (w1.alloc (.cells (sC g ts.length cap k1).toArray 54)) (.cells (xCs xk x1 x2 x3 xt xn xo (.slice asv xa.length csv)).toArray 33) (k:=w1.heap.size+1) aa);have hlow:=aB HO.o.lt;have HZ:=aB (hA.of (q:=fun b=>W.heap.size+2<=b/\some b≠v0.ownBlock) fun b hl (hb:_<=b)=>⟨by omega,fun e=>by have:=(hlow.o b e.symm).2;omega⟩);have HC:=aB hcase;clear hb1 hA hcase s0 s1;obtain⟨s0,s1,-,-,-⟩:=aU HX3.o;rcases HC.o with⟨rfl,hr⟩|⟨hc,hr⟩
  rotate_left
  ·have HF3:=aB ((HF.o.call HB1.o).call HB3.o);have HE:=aB (HST.o.1 c (e5d hr));have hc0:¬c=0:=aE;have hcb:(c==0)=false:=ap;have hcb':(c != 0)=true:=ap;clear hr HC;go_wp2_with (refine bA rfl rfl rfl rfl (sC g ts.length cap k1) HF3.o.r rfl rfl d2j rfl ?_)
   intro w9 hB9 hX9;have HF9:=aB (HF3.o.putR hB9 hX9);clear hB9 hX9 s0 s1;go_wp2;exact bodyPost_ret (HF9.o.results rfl rfl rfl) rfl ⟨HF9.o.bl,k1,[],_,c,hk1,rfl,d2p.nil _ _ _ _,.inr ⟨hc,HE.o,rfl⟩⟩
  have HEX:=aB hr;clear hr HC;have HB4:=aB (HB3.o.alloc (.cells (oCs xk x1 x2 x3 xt xn xo (.slice asv xa.length csv) false).toArray 80));have HX4:=aB ((aW _ (.cells (oCs xk x1 x2 x3 xt xn xo (.slice asv xa.length csv) false).toArray 80) (lt_of_heap HX3.o)).trans HX3.o);have HY4:=aB (aV ((w1.alloc (.cells (sC g ts.length cap k1).toArray 54)).alloc (.cells (xCs xk x1 x2 x3 xt xn xo (.slice asv xa.length csv)).toArray 33)) (.cells (oCs xk x1 x2 x3 xt xn xo (.slice asv xa.length csv) false).toArray 80) (k:=w1.heap.size+2) aa);clear s0 s1
  go_upto_if 36 with(refine wpList_load_row rfl 33 (.tmp 12) rfl (w1.heap.size+1) rfl 33 _ (0,0) _ HY3.o underlying33 rfl d4b ?_)
  go_cut [] from 23 to 62 (fun wc=>∃(k2:Nat) (dn:Bool),k1<=k2/\k2<ts.length/\Hid (Bl w1 wc)/\Hid (wc.heap[w1.heap.size]?=some (.cells (sC g ts.length cap k2).toArray 54 (0,0)))/\Hid (wc.heap[w1.heap.size+2]?=some (.cells (oCs xk x1 x2 x3 xt xn xo (.slice asv xa.length csv) dn).toArray 80 (0,0)))/\
   Hid (d9l ts ways kk= .good k2 ⟨.mk xk (x1,x2,x3) xt xn xo xa,dn⟩))
  case first=>
   cases ways with
   |false=>
    go_wp2
    go_meet
    case rel=>exact⟨k1,false,aH _,hk1,HB4.o,HX4.o,HY4.o,by unfold d9l;rw[if_neg ak,HEX.o];rfl⟩
   |true=>
    obtain⟨s0,s1,-,-,-⟩:=aU HX4.o;go_wp2_with fail;refine(dH H.o ((HF.o.bl.call (HB1.o.call HB4.o)).alloc _) hfew hk1 1 [e6b] rfl aa (aV _ _ aa)).mono ?_;rintro e w5 ⟨rfl,hb5⟩;rw[d2x];have HB5:=aB ((HB4.o.alloc _).call hb5);have HX5:=aB ((hb5.block w1.heap.size af).trans ((aW _ _ (lt_of_heap HX4.o)).trans HX4.o));have HY5:=aB ((hb5.block (w1.heap.size+2) aa).trans ((aW _ _ (lt_of_heap HY4.o)).trans HY4.o));clear hb5 s0 s1;cases ha:bH ts k1 [e6b] with
    |some k2=>
     have hk2:=kS HTK.o hk1 ha;have HB6:=aB (HB5.o.alloc (.cells (sC g ts.length cap k2).toArray 54));have HE:=aB (show d9l ts true kk= .good k2 ⟨.mk xk (x1,x2,x3) xt xn xo xa,false⟩ from by unfold d9l d3f;rw[if_pos rfl,HEX.o];simp only[d2u.bind];rw[ha]);obtain⟨s0,s1,-,-,-⟩:=aU (aN w5 (.cells (sC g ts.length cap k2).toArray 54));clear ha;go_wp2_with (refine bA rfl rfl rfl rfl (sC g ts.length cap k2) ((aW _ _ (lt_of_heap HX5.o)).trans HX5.o) rfl rfl d2j rfl ?_)
     intro w7 hB7 hX7;have HB7:=aB (HB6.o.but hB7 (aH _));have HX7:=aB hX7;have HY7:=aB ((hB7.same (w1.heap.size+2) aE).trans ((aW _ _ (lt_of_heap HY5.o)).trans HY5.o));clear hB7 hX7 s0 s1;go_wp2
     go_meet
     case rel=>exact⟨k2,false,by omega,hk2.2,HB7.o,HX7.o,HY7.o,HE.o⟩
    |none=>
     have HB6:=aB (HB5.o.alloc (.cells (sC g ts.length cap k1).toArray 54));have HN6:=aB (aN w5 (.cells (sC g ts.length cap k1).toArray 54));have HX6:=aB ((aW w5 (.cells (sC g ts.length cap k1).toArray 54) (lt_of_heap HX5.o)).trans HX5.o);have HY6:=aB ((aW w5 (.cells (sC g ts.length cap k1).toArray 54) (lt_of_heap HY5.o)).trans HY5.o);have hz5:=lt_of_heap HY5.o;have HTA:=aB ha;obtain⟨s0,s1,-,-,-⟩:=aU HN6.o;clear ha;go_wp2_with fail;refine(dH H.o ((HF.o.bl.call (HB1.o.call HB6.o)).alloc _) hfew hk1 1 [d4e] rfl aa (aV _ _ aa)).mono ?_;rintro e w7 ⟨rfl,hb7⟩;rw[d2x];have hk2:k1<=(bH ts k1 [d4e]).getD k1/\(bH ts k1 [d4e]).getD k1<ts.length:=by
      cases hd:bH ts k1 [d4e] with
      |none=>exact⟨aH _,hk1⟩
      |some k2=>have:=kS HTK.o hk1 hd;exact⟨Nat.le_of_lt this.1,this.2⟩
     have HE:=aB (show d9l ts true kk= .good ((bH ts k1 [d4e]).getD k1) ⟨.mk xk (x1,x2,x3) xt xn xo xa,(bH ts k1 [d4e]).isSome⟩ from by unfold d9l d3f;rw[if_pos rfl,HEX.o];simp only[d2u.bind];rw[HTA.o];simp only;cases bH ts k1 [d4e]<;>rfl);generalize (bH ts k1 [d4e]).getD k1=k2 at *;generalize (bH ts k1 [d4e]).isSome=dn at *;have HB7:=aB ((HB6.o.alloc _).call hb7);have HN7:=aB ((hb7.block w5.heap.size af).trans ((aW _ _ (lt_of_heap HN6.o)).trans HN6.o));have HX7:=aB ((hb7.block w1.heap.size af).trans ((aW _ _ (lt_of_heap HX6.o)).trans HX6.o));have HY7:=aB ((hb7.block (w1.heap.size+2) af).trans ((aW _ _ (lt_of_heap HY6.o)).trans HY6.o));clear hb7 s0 s1 HTA;go_wp2_with (refine bA rfl rfl rfl rfl (sC g ts.length cap k2) HN7.o rfl rfl d2j rfl ?_)
     intro w8 hB8 hX8;have HB8:=aB (HB7.o.but hB8 aE);have HN8:=aB hX8;have HX8:=aB ((hB8.same w1.heap.size aE).trans HX7.o);have HY8:=aB ((hB8.same (w1.heap.size+2) aE).trans HY7.o);clear hB8 hX8;go_wp2_with (refine bA rfl rfl rfl rfl (oCs xk x1 x2 x3 xt xn xo (.slice asv xa.length csv) dn) HY8.o rfl rfl e3y rfl ?_)
     intro w9 hB9 hX9;have HB9:=aB (HB8.o.but hB9 aE);have HY9:=aB hX9;have HX9:=aB ((hB9.same w1.heap.size aE).trans HX8.o);obtain⟨s0,s1,-,-,-⟩:=aU ((hB9.same w5.heap.size aE).trans HN8.o);clear hB9 hX9;go_wp2_with (refine bA rfl rfl rfl rfl (sC g ts.length cap k2) HX9.o rfl rfl d2j rfl ?_)
     intro w10 hB10 hX10;have HB10:=aB (HB9.o.but hB10 (aH _));have HX10:=aB hX10;have HY10:=aB ((hB10.same (w1.heap.size+2) aE).trans HY9.o);clear hB10 hX10 s0 s1;go_wp2
     go_meet
     case rel=>exact⟨k2,dn,hk2.1,hk2.2,HB10.o,HX10.o,HY10.o,HE.o⟩
  case rest=>
   obtain⟨k2,dn,hk12,hk2,HBc,HXc,HYc,HEc⟩:=hcut;clear HB3 HX3 HY3 HB4 HX4 HY4 HEX;have hlt2:=HP.o _ _ HEc.o;have HG:=aB (HST.o.2 _ _ HEc.o);have HBW:=aB (HB1.o.call HBc.o);have hzc:=lt_of_heap HYc.o;clear HP HST HEc;go_wp2_with (first |(refine wpList_load_row rfl 80 (.tmp 14) rfl (w1.heap.size+2) rfl 80 _ (0,0) _ HYc.o underlying80 rfl e5w ?_)|(at_builtin;refine d4n rfl (.tmp 53) (.tmp 55) rfl (W.heap.size+2) v0 acc rfl (gY (HBW.o.alloc _) HO.o) wc.heap.size ⟨.mk xk (x1,x2,x3) xt xn xo xa,dn⟩ asv xa.length csv rfl (aN wc _) aE (by rw[aR];have:=HBW.o.size;omega) ?_))
   intro v' w6 hown6 hg6 hat;have hz6:=hg6.4;have HF6:=aB ((HF.o.call (HBW.o.alloc _)).own hg6 (fun j e=>(hlow.o j e).1));have HX6:=aB ((hg6.block w1.heap.size af (fun e=>by have:=(hlow.o _ e.symm).2;omega)).trans ((aW _ _ aE).trans HXc.o));have HTR6:=aB (show ∀q∈acc++[((⟨.mk xk (x1,x2,x3) xt xn xo xa,dn⟩:Od),.slice asv xa.length csv)],bG (fun b=>W.heap.size+2<=b/\some b≠v'.ownBlock) w6 q.2 (Form.ex fOd q.1).args from fun q hq=>by rcases iX.1 hq with hq|hq;exact((HTR.o q hq).bl (HBW.o.alloc _)).own hg6 bd;obtain rfl:=gQ.1 hq;exact(HZ.o.bl (HBc.o.alloc _)).own hg6 bd);obtain⟨gn,cn,rfl⟩:=nG hown6;have HOW6:=aB hown6;have hzz6:=lt_of_heap HX6.o;clear hown6 hg6 hat;obtain⟨s0,s1,-,-,-⟩:=aU HX6.o;go_wp2_with fail;refine(dH H.o (HF6.o.bl.alloc _) hfew hk2 1 [[44]] rfl aa (aN _ _)).mono ?_;rintro e w7 ⟨rfl,hb7⟩;have HB7:=aB (((Bl.refl w6).alloc _).call hb7);have HF7:=aB (HF6.o.call HB7.o);clear hb7 s0 s1;rw[d2x];have hk3:k2<=(bH ts k2 [[44]]).getD k2/\(bH ts k2 [[44]]).getD k2<ts.length:=by
    cases hd:bH ts k2 [[44]] with
    |none=>exact⟨aH _,hk2⟩
    |some k3=>have:=kS HTK.o hk2 hd;exact⟨Nat.le_of_lt this.1,this.2⟩
   have HSN:Hid (((bH ts k2 [[44]]).isSome=true/\d8b ts (d9l ts ways) R ((bH ts k2 [[44]]).getD k2) (acc.map (·.1)++[⟨.mk xk (x1,x2,x3) xt xn xo xa,dn⟩]))\/((bH ts k2 [[44]]).isSome=false/\R= .good ((bH ts k2 [[44]]).getD k2) (acc.map (·.1)++[⟨.mk xk (x1,x2,x3) xt xn xo xa,dn⟩]))):=by
    cases hd:bH ts k2 [[44]] with
    |none=>exact .inr ⟨rfl,HG.o.2 hd⟩
    |some k3=>exact .inl ⟨rfl,HG.o.1 k3 hd (kS HTK.o hk2 hd).1⟩
   generalize (bH ts k2 [[44]]).getD k2=k3 at *;generalize (bH ts k2 [[44]]).isSome=b3 at *;go_wp2_with (refine bA rfl rfl rfl rfl (sC g ts.length cap k3) HF7.o.s rfl rfl d2j rfl ?_)
   intro w9 hB9 hX9;have HF9:=aB (HF7.o.putS hB9 hX9);have HB9:=aB hB9;clear hB9 hX9;go_wp2;go_roundw
   case rel=>exact⟨_,k3,acc++[((⟨.mk xk (x1,x2,x3) xt xn xo xa,dn⟩:Od),.slice asv xa.length csv)],b3,rfl,rfl,by simp;omega,hk3.2,HF9.o,by rw[bD];exact d3q (gY HB7.o HOW6.o) HB9.o aE,aB (fun q hq=>((HTR6.o q hq).bl HB7.o).but HB9.o (fun i hi=>by omega)),by rw[kW];exact HSN.o⟩
   case measure=>
    have n1:=yN HF.o.s;have n2:=yN HF9.o.s;rw[n1,n2];cases b3<;>simp[bOf]<;>omega
end
section
attribute [local go_sem] nC
section
variable {W A B:World} {base size n:Nat} {e:TypeId} {v:Value} {xs:List Value}
theorem d9k(h:A.ownsRow base e size v n xs){row:Option Nat}(hg:A.grownBy B row)(hr:∀r,row=some r->∃o:Obj,A.heap[r]?=some o/\o.isCells=false):B.ownsRow base e size v n xs:=by
 refine⟨h.1,?_⟩;rcases h.2 with h0|⟨g,cap,cur,hv,hgb,hh,r⟩
 ·exact .inl h0
 ·refine .inr ⟨g,cap,cur,hv,hgb,(hg.block g (aC.1 hh).1 (fun e=>?_)).trans hh,r⟩;obtain⟨o,ho,hc⟩:=hr g e.symm;rw[hh] at ho;cases ho;cases hc
theorem e3p(h:A.ownsRow base e size v n xs)(hg:A.grownBy B v.ownBlock):KeepsOthers A B:=
 ⟨hg.size,fun k o hk ho=>(hg.block k (aC.1 hk).1 (fun e=>by
  rcases h.2 with⟨h0,-⟩|⟨g,cap,cur,hv,hgb,hh,r⟩
  ·rw[h0] at e;cases e
  ·rw[hv] at e;injection e with e;subst e;rw[hh] at hk;cases hk;cases ho)).trans hk⟩
theorem e3q{b:Nat}(h:But b A B){cs:Array Value}{t:TypeId}{z:Nat×Nat}(hx:A.heap[b]?=some (.cells cs t z)):KeepsOthers A B:=
 ⟨by rw[h.size];exact aH _,fun k o hk ho=>(h.same k (fun e=>by subst e;rw[hx] at hk;cases hk;cases ho)).trans hk⟩
theorem d6c(h:A.ownsRow base e size v n xs):∃a c,v= .slice a n c:=by
 rcases h.2 with⟨h0,h1⟩|⟨g,cap,cur,hv,hgb,hh,r⟩
 ·exact⟨none,0,by rw[h0,h1]⟩
 ·exact⟨_,_,hv⟩
theorem own_ne{b:Nat}{cs:Array Value}{T:TypeId}{z:Nat×Nat}(h:A.ownsRow base e size v n xs)(hx:A.heap[b]?=some (.cells cs T z))(hT:T≠e):v.ownBlock≠some b:=fun hb=>by
 rcases h.2 with⟨h0,-⟩|⟨g,cap,cur,hv,hgb,hh,r⟩
 ·rw[h0] at hb;cases hb
 ·rw[hv] at hb;injection hb with hb;subst hb;rw[hh] at hx;injection hx with hx;injection hx with _ hx _;exact hT hx.symm
theorem d2m{t:TypeId}{b:Nat}{u:Value}(h:Boxed A b t u)(hb:Bl A B):Boxed B b t u:=(hb.block _ h.lt).trans h
theorem d6y{α:Type}{l:List α}{z:α}(hz:z∈l)(j:Nat):l[j]?.getD z∈l:=by
 cases h:l[j]? with
 |none=>exact hz
 |some x=>exact dJ h
end
theorem d3g:(prog.info? 82).map (·.size)=some 1:=by kernel_rfl
theorem d2w{o:Oper}{a:Act}{w:World}{K:Act->World->Prop}{Q:Exit->Act->World->Prop}(s x:Operand)(ho:o.op= .call {callee:= .builtin .append,args:= #[s,x],argTypes:= #[82,82]})
  (base:Nat) (v:Value) (n:Nat) (xs:List Value) (hs:a.eval s=v) (hown:w.ownsRow base 9 1 v n xs) (b:Nat) (y:List UInt8) (hx:a.eval x= .slice (some ⟨b,0,none⟩) 1 1) {t:TypeId}
  (hb:w.heap[b]?=some (.cells #[S y] t (0,0))) (hfew:n<=1000000) (hbase:base<=w.heap.size)
  (h:∀v' w',w'.ownsRow base 9 1 v' (n+1) (xs++[S y])->w.grownBy w' v.ownBlock->(v'.ownBlock=v.ownBlock\/v'.ownBlock=some w.heap.size)->K (a.put o.dst v') w'):Oper.wp prog o a w K Q:=by
 obtain⟨i,hi,hz0,hz1,hz2⟩:=a1h;obtain⟨v',w',hr,h2,h3,h4,h5⟩:=run_append_own_at (P:=prog) w base 82 o.type 9 i (S []) 1 16 underlying82 hi hz0 hz1 hz2 rfl ak v n xs hown ⟨b,0,none⟩ 1 1 [S y] rfl
  (by
   intro j u hj
   match j,hj with
   |0,hj=>
    injection hj with hj;subst hj;have:w.cell? ⟨b,0,none⟩=some (S y):=(aG hb 0).trans rfl;simpa[dY] using this)
  (by intro u hu;simp at hu;subst hu;rfl) cW aE hbase
 unfold Oper.wp execOp;simp only[ho,resolve,invoke,builtin,Sem.run_bind,Sem.run_pure,Result.andThen_ok,List.map_toArray,kP,qZ,hs,hx,hr];exact h v' w' h2 h3 h5
structure d8a(W:World)(F:TypeId)(fv:Value)(g:Nat->Value)(pre:List Nat)(A:World):Prop where
 own:∃v,Boxed A (W.heap.size+1) 82 v/\A.ownsRow (W.heap.size+3) 9 1 v pre.length (pre.map g)
 f:Boxed A W.heap.size F fv
 bl:Below W.heap.size W A
 z:W.heap.size+3<=A.heap.size
theorem d5w(W:World)(F:TypeId)(fv:Value)(g:Nat->Value)(B0:Nat)(hB0:W.heap.size+3<=B0):OwnFrom B0 (d8a W F fv g):=by
 rintro pre A B row ⟨⟨v,h1,h2⟩,h3,h4,h5⟩ hg hr;have hne:∀i,i<W.heap.size+3->some i≠row:=fun i hi e=>(by have:=(hr i e.symm).1;omega);exact⟨⟨v,h1.kept hg (hne _ aE),d9k h2 hg fun r e=>(hr r e).2⟩,h3.kept hg (hne _ aE),h4.grown hg h4.size (fun k e=>by have:=(hr k e).1;omega),jH h5 hg.4⟩
theorem d8a.alloc{W A:World}{F:TypeId}{fv:Value}{g:Nat->Value}{pre:List Nat}(h:d8a W F fv g pre A)(o:Obj):d8a W F fv g pre (A.alloc o):=by
 obtain⟨⟨v,h1,h2⟩,h3,h4,h5⟩:=h;exact⟨⟨v,h1.alloc o,gY ((Bl.refl A).alloc _) h2⟩,h3.alloc o,h4.alloc h4.size o,by simp;omega⟩
theorem d2y{W A A1 A2 B:World}{F:TypeId}{fv:Value}{g:Nat->Value}{pre:List Nat}{j n0:Nat}{y:List UInt8}{v v':Value}(hT:d8a W F fv g pre A)(h1:Boxed A (W.heap.size+1) 82 v)(h2:A.ownsRow (W.heap.size+3) 9 1 v pre.length (pre.map g))
  (hb:Bl A A1) (hown:A2.ownsRow (W.heap.size+3) 9 1 v' (pre.length+1) (pre.map g++[S y])) (hg:A1.grownBy A2 v.ownBlock) (hB:But (W.heap.size+1) A2 B) (hx:B.heap[W.heap.size+1]?=some (.cells #[v'] 82 (0,0))) (hy:g j=S y):
  KeepsFrom n0 A B/\Below W.heap.size A B/\d8a W F fv g (pre++[j]) B:=by
 have hlow:=h2.lt;have hsz:=hb.size;have hA:=hT.z;have hm:A2.heap[W.heap.size+1]?=some (.cells #[v] 82 (0,0)):=(hg.block _ aE (fun e=>by have:=(hlow _ e.symm).1;omega)).trans ((hb.block _ h1.lt).trans h1);have hAB:Below W.heap.size A B:=((((bS _ A).trans (hb.mono hT.bl.size)).grown hg aE (fun k e=>by have:=(hlow k e).1;omega))).grown hB.grown (by have:=hg.4;omega) (fun k e=>by injection e with e;omega);refine⟨(((KeepsOthers.of_bl hb).trans (e3p (gY hb h2) hg)).trans (e3q hB hm)).from _,hAB,⟨⟨v',hx,?_⟩,?_,hT.bl.trans hAB,by have:=hAB.size;omega⟩⟩
 ·rw[kW,List.map_singleton,hy,bD];exact d3q hown hB aE
 ·exact(hB.same _ aE).trans ((hg.block _ (by have:=hT.f.lt;omega) (fun e=>by have:=(hlow _ e.symm).1;omega)).trans ((hb.block _ hT.f.lt).trans hT.f))
theorem d5k{W A:World}{D n:Nat}{a:Act}{fn:Func}{xs:List Value}{va:Option Addr}{vc:Nat}{R:World->Value->Prop}(hres:fn.results= #[.cell 4 82])(hD:W.heap.size+3<=D)(ht:a.tmps[4]?=some (.pointer (some ⟨W.heap.size+1,0,none⟩)))(hd:a.defers=[{target:= .collected D,args:= #[]}])
  (hh:Boxed A (W.heap.size+1) 82 (.slice va n vc)/\A.ownsRow (W.heap.size+3) 9 1 (.slice va n vc) n xs/\Below W.heap.size W A/\A.heap[D]?=some (.deferred (some []))) (hfin:∀w v,w.ownsRow (W.heap.size+3) 9 1 v n xs->R w v):
  bodyPostM Fence.wide 5 prog fn (fun e w'=>(∃v,e= .returned v/\R w' v)/\Bl W w') .ret a (A.setCell ⟨W.heap.size+1,0,none⟩ (.slice va n vc)):=by
 obtain⟨tm,df⟩:=a;simp only at ht hd;subst hd;obtain⟨h1,h2,h3,hK⟩:=hh;have hK':=(aM A ⟨W.heap.size+1,0,none⟩ (.slice va n vc) D (by show D≠W.heap.size+1;omega)).trans hK;refine⟨by simp,.inl ⟨_,_,rfl,run_takeDeferred hK',?_⟩⟩;have hgp:=grownBy_putObj' (A.setCell ⟨W.heap.size+1,0,none⟩ (.slice va n vc)) D (.deferred none);have b1:Boxed (A.setCell ⟨W.heap.size+1,0,none⟩ (.slice va n vc)) (W.heap.size+1) 82 (.slice va n vc):=h1.set _;have c:=(b1.kept hgp af).cell;have hB:=h3.setCell (p:=⟨W.heap.size+1,0,none⟩) eK (.slice va n vc);refine⟨.slice va n vc,by simp[results,hres,go_sem,ht,c],⟨_,rfl,hfin _ _ (d9k (pO h2 (qA _ _ _) aE) hgp fun r e=>?_)⟩,hB.grown hgp hB.size (fun k e=>by cases e;omega)⟩;injection e with e;subst e;exact⟨_,hK',rfl⟩
theorem e1p{W:World}{sv:Value}{l:List It}{q:Nat->Prop}{tx:It->List UInt8}{fn:FuncId}(caps:Array Value)(hen:∀(args:Array Value) (w:World),(callFunc fn args).run prog w= .ok (.enter fn args) w)(hlen:l.length<=1000000)(hR:d2p fIt q W sv l)
  (hf:∀y∈l,∀(W':World) (s:Value),Bl W W'->bG q W' s (Form.ex fIt y).args->eu fn (#[.agg (fIt.cells y s).toArray]++caps) W' fun e w'=>e= .returned (S (tx y))/\Bl W' w'):
  eu 67 #[sv,.func (.func fn) #[] caps] W fun e w'=>(∃v,e= .returned v/\((l=[]/\∃a' d',v= .slice a' 0 d')\/sW w' v (l.map tx)))/\Bl W w':=by
 obtain⟨zs,hzs,hE0,hRq⟩:=d6w itZ hR;obtain⟨z,hz⟩:∃z:Wh It,zs≠[]->z∈zs:=by
  cases zs with
  |nil=>exact⟨itZ,fun h=>absurd rfl h⟩
  |cons q r=>exact⟨q,fun _=>by simp⟩
 have hE:=hE0.any z;obtain⟨a,cap,rfl,-⟩:=id hE;have hlz:zs.length<=1000000:=eN;have HFEW:=aB hlz;have IH:Hid (∀(p:Wh It) (W':World),p∈zs->Bl W W'->eu fn (#[Form.v fIt p]++caps) W' fun e w'=>e= .returned (S (tx p.1))/\Bl W' w'):=fun p W' hp hb=>hf p.1 eI W' (Form.sv fIt p) hb ((hRq p hp).bl hb);have HE:=aB hE;have HZ:=aB hz;have HFIN:Hid (∀(w:World) (v:Value),w.ownsRow (W.heap.size+3) 9 1 v zs.length ((iU zs.length).map fun j=>S (tx (zs[j]?.getD z).1))->(l=[]/\∃a' d',v= .slice a' 0 d')\/sW w v (l.map tx)):=fun w v h=>by
  have e:((iU zs.length).map fun j=>S (tx (zs[j]?.getD z).1))=(l.map tx).map fun s=>S s:=by
   rw[<-hzs];apply kX
   ·simp
   ·intro i h1 h2;have:i<zs.length:=cH;simp[this]
  rw[e] at h;have hl:zs.length=(l.map tx).length:=(by rw[<-hzs];simp);rw[hl] at h;rcases b8c h with⟨h1,h2⟩|h1
  ·exact .inl ⟨by simpa using h1,h2⟩
  ·exact .inr h1
 clear hR hf hzs hE0 hE hRq hz hlen;refine(callsIn_wide (n:=5)).1 ?_;refine callsIn_of_wp_marks func67 rfl trivial ?_ rfl;simp only[ntmps67,gG,aX,bL,Nat.reduceAdd,Nat.reduceSub,eX,eU,gH,fD,cB,bE]
 gi_wp2_with fail
 refine⟨trivial,?_⟩;refine(e4j Fence.wide 4 trivial rfl _ _ _ _).mono ?_;rintro e w' ⟨rfl,rfl⟩
 gi_wp2_with fail
 have b0:=Boxed.new W 123 (.func (.func fn) #[] caps);have b1:=Boxed.new (W.alloc (.cells #[.func (.func fn) #[] caps] 123)) 82 (.slice none 0 0);have b2:=Boxed.new ((W.alloc (.cells #[.func (.func fn) #[] caps] 123)).alloc (.cells #[.slice none 0 0] 82)) 22 (.slice a zs.length cap);simp only[aR] at b1 b2;have hB3:Bl W (((W.alloc (.cells #[.func (.func fn) #[] caps] 123)).alloc (.cells #[.slice none 0 0] 82)).alloc (.cells #[.slice a zs.length cap] 22)):=(((Bl.refl W).alloc _).alloc _).alloc _;have hsz:(((W.alloc (.cells #[.func (.func fn) #[] caps] 123)).alloc (.cells #[.slice none 0 0] 82)).alloc (.cells #[.slice a zs.length cap] 22)).heap.size=W.heap.size+3:=aa;have b0':=(b0.alloc (.cells #[.slice none 0 0] 82)).alloc (.cells #[.slice a zs.length cap] 22);have b1':=b1.alloc (.cells #[.slice a zs.length cap] 22);clear b0 b1;generalize (((W.alloc (.cells #[.func (.func fn) #[] caps] 123)).alloc (.cells #[.slice none 0 0] 82)).alloc (.cells #[.slice a zs.length cap] 22))=W3 at *;refine wpIn_rangeFunc_ownH rfl aE (gf:=179) (lb:= #[.pointer (some ⟨W.heap.size+1+1,0,none⟩)]) rfl trivial (enters_of func179 ab rfl)
  (d9z z Fence.wide (5-1) trivial rfl aE (W.heap.size+1+1) W.heap.size _ zs HFEW.o W3 aE aE b2.cell (HE.o.below hB3)) belowK_t (belowK_b aE) (bS _ _) (fun _=>rfl)
  (d8a W 123 (.func (.func fn) #[] caps) fun j:Nat=>S (tx (zs[j]?.getD z).1)) (fun _ _ _=>False)
  (d5w W _ _ _ _ aE) (fun _ _ _ _ _ hs _ _=>hs)
  ⟨⟨_,b1',d2l _ _ _ _⟩,b0',hB3,by omega⟩
  (fun(j:Nat) a' A=>∃Bx,W.heap.size+3<=Bx/\A.heap[Bx]?=some (.cells (fIt.cells (zs[j]?.getD z).1 (Form.sv fIt (zs[j]?.getD z))).toArray 91 (0,0))/\
   a'={tmps:= #[.slice a zs.length cap,.func (.func fn) #[] caps,undef,.pointer (some ⟨W.heap.size,0,none⟩),.pointer (some ⟨W.heap.size+1,0,none⟩),.pointer (some ⟨Bx,0,none⟩),.slice a zs.length cap,.func (.func 179) #[] #[.pointer (some ⟨W.heap.size+1+1,0,none⟩)],Form.v fIt (zs[j]?.getD z),undef,undef,undef,undef,undef,undef,undef],defers:=[]})
  (fun j a' _ A B row hs hg hr=>by
   obtain⟨Bx,h0,h1,h2⟩:=hs;refine⟨Bx,h0,(hg.block Bx (aC.1 h1).1 (fun e=>?_)).trans h1,h2⟩;obtain⟨-,o,ho,hc⟩:=hr Bx e.symm;rw[h1] at ho;cases ho;cases hc)
  ?assign ?body ?done ?stop
 case assign=>
  rintro l pre j A K hI hK;have hIz:=hI.z
  revert hK
  generalize zs[j]?.getD z=p;obtain⟨⟨st,tt,⟨zk,⟨z1,z2,z3⟩,zt,zn,zo,za⟩,al⟩,ad,ca⟩:=p;have hv:Form.v fIt (⟨st,tt,⟨zk,⟨z1,z2,z3⟩,zt,zn,zo,za⟩,al⟩,ad,ca)= .agg #[.bool st,S tt,.int .i64 zk,.int .i64 z1,.int .i64 z2,S z3,S zt,S zn,.int .i64 zo,.slice ad za.length ca,S al]:=rfl;rw[hv];intro hK
  gi_wp2
  exact hK _ _ ((KeepsOthers.alloc _ _).from _) ((bS _ A).alloc hI.bl.size _) (hI.alloc _) ⟨A.heap.size,by omega,aN A _,rfl⟩
 case body=>
  rintro l pre j a' A hl ⟨r,hr⟩ hI ⟨Bx,hBx,hX,rfl⟩ hpl;have hmem:zs[j]?.getD z∈zs:=d6y (HZ.o (fun e=>by rw[e] at hpl;simp at hpl)) j;have HT:=aB hI;have HC:=aB (fun W' hb=>IH.o (zs[j]?.getD z) W' hmem hb);have HG:Hid ((fun j:Nat=>S (tx (zs[j]?.getD z).1)) j=S (tx (zs[j]?.getD z).1)):=rfl;generalize (fun j:Nat=>S (tx (zs[j]?.getD z).1))=gg at *;generalize zs[j]?.getD z=p at *;obtain⟨ty,hty⟩:∃ty,tx p.1=ty:=⟨_,rfl⟩
  rw[hty] at HG HC;clear hmem hty hr;obtain⟨⟨st,tt,⟨zk,⟨z1,z2,z3⟩,zt,zn,zo,za⟩,al⟩,ad,ca⟩:=p;have hv:Form.v fIt (⟨st,tt,⟨zk,⟨z1,z2,z3⟩,zt,zn,zo,za⟩,al⟩,ad,ca)= .agg #[.bool st,S tt,.int .i64 zk,.int .i64 z1,.int .i64 z2,S z3,S zt,S zn,.int .i64 zo,.slice ad za.length ca,S al]:=rfl;rw[hv] at HC⊢
  replace hX:A.heap[Bx]?=some (.cells #[.bool st,S tt,.int .i64 zk,.int .i64 z1,.int .i64 z2,S z3,S zt,S zn,.int .i64 zo,.slice ad za.length ca,S al] 91 (0,0)):=hX
  clear hv;obtain⟨v,h1,h2⟩:=hI.own;have H1:=aB h1;have H2:=aB h2;have hlow:=aB h2.lt;have HNE:Hid (v.ownBlock≠some Bx):=own_ne h2 hX ak;have hz:=hI.z;have hlz2:pre.length<=1000000:=(by have:=HFEW.o;omega);clear hI h2
  gi_wp2_with fail
  refine(d3p (fun B=>B.heap[W.heap.size]?=some (.cells #[.func (.func fn) #[] caps] 123 (0,0))/\B.heap[Bx]?=some (.cells #[.bool st,S tt,.int .i64 zk,.int .i64 z1,.int .i64 z2,S z3,S zt,S zn,.int .i64 zo,.slice ad za.length ca,S al] 91 (0,0))) ((.take 1 (.take 2 (.two 0 3 (.one 3 (.one 4 (.one 5 (.one 6 .done)))) (.two 0 4 (.one 4 (.one 5 (.one 6 .done))) (.one 0 (.one 5 (.one 6 .done)))))))) ab ab ab (fun c a d v w h=>by cases d<;>exact h) ab (fun a w h=>h) (eB ⟨HT.o.f,hX⟩ ((Bl.refl _).drew)) ?_);intro wd HWD hY;refine aI rfl ae du ?_;(try simp only[aK,aA,aD,aF])
  refine aI rfl ae (fun w hSw=>eD rfl rfl hSw.2 underlying91 rfl d3l) ?_;(try simp only[aK,aA,aD,aF])
  refine sZ ?_ ?_
  focus
   try have c0a:=((d2m H1.o (Bl.call HWD.o hb3)).alloc (.cells #[S ty] 9)).cell
   try have c0b:=(d2m H1.o (Bl.call HWD.o hb3)).cell
   have c0c:=(d2m H1.o HWD.o).cell;refine aL rfl (fun K hK=>?_);go_simp;refine hK.o _ _ (hY) ?_;clear hY hK K;intro hY;refine aL rfl (fun K hK=>?_);go_simp;(refine(HC.o _ (Bl.call HT.o.bl HWD.o)).mono ?_;rintro e w3 ⟨rfl,hb3⟩;have hb:=hb3);go_wp2_with fail;refine hK.o _ _ ((by first |exact eB hY hb|exact pV hY hb aE aE)) ?_;clear hY hK K;intro hY;clear hb;refine aL rfl (fun K hK=>?_);go_simp;refine hK.o _ _ ((eB hY ((Bl.refl _).alloc _))) ?_;clear hY hK K;intro hY;refine aL rfl (fun K hK=>?_);rw[if_pos ae];refine d2w (.tmp 9) (.tmp 13) rfl (W.heap.size+3) v pre.length (pre.map gg) rfl (gY ((HWD.o.call hb3).alloc _) H2.o) w3.heap.size ty rfl (aN w3 _) hlz2 aq ?_;intro v' w5 hown5 hg5 hat;refine hK.o _ _ (b8m hY hg5 (fun i e h=>by subst h;have:=(hlow.o _ e).1;omega) (fun i e h=>by subst h;exact HNE.o e)) (fun hY2=>?_);clear hY hK K;have hY:=hY2;clear hY2;have HM5:=aB ((hg5.block (W.heap.size+1) aq (fun e=>by have:=(hlow.o _ e.symm).1;omega)).trans ((aW _ _ bp).trans (((HWD.o.call hb3).block _ (Boxed.lt H1.o)).trans H1.o)));obtain⟨g5,cap5,rfl⟩:=nG hown5;refine aL rfl (fun K hK=>?_);rw[if_pos ae];refine bC rfl rfl rfl ([.slice (some ⟨g5,0,none⟩) (pre.length+1) cap5]) HM5.o rfl rfl d3g rfl ?_;intro w6 hB6 hX6;refine hK.o _ _ ((by first |exact eB hY hB6|exact pV hY hB6 aE aE)) ?_;clear hY hK K;intro hY;(try simp only[aK])
   refine fO ?_;exact d2y HT.o H1.o H2.o ((HWD.o.call hb3).alloc _) hown5 hg5 hB6 hX6 HG.o
  rotate_left 1
  focus
   refine aL rfl (fun K hK=>?_);go_simp;(refine(HC.o _ (Bl.call HT.o.bl HWD.o)).mono ?_;rintro e w3 ⟨rfl,hb3⟩;have hb:=hb3);go_wp2_with fail;refine hK.o _ _ ((by first |exact eB hY hb|exact pV hY hb aE aE)) ?_;clear hY hK K;intro hY;clear hb;refine sZ ?_ ?_
   focus
    try have c0a:=((d2m H1.o (Bl.call HWD.o hb3)).alloc (.cells #[S ty] 9)).cell
    try have c0b:=(d2m H1.o (Bl.call HWD.o hb3)).cell
    have c0c:=(d2m H1.o HWD.o).cell;refine aL rfl (fun K hK=>?_);go_simp;refine hK.o _ _ (hY) ?_;clear hY hK K;intro hY;refine aL rfl (fun K hK=>?_);go_simp;refine hK.o _ _ ((eB hY ((Bl.refl _).alloc _))) ?_;clear hY hK K;intro hY;refine aL rfl (fun K hK=>?_);rw[if_pos ae];refine d2w (.tmp 9) (.tmp 13) rfl (W.heap.size+3) v pre.length (pre.map gg) rfl (gY ((HWD.o.call hb3).alloc _) H2.o) w3.heap.size ty rfl (aN w3 _) hlz2 aq ?_;intro v' w5 hown5 hg5 hat;refine hK.o _ _ (b8m hY hg5 (fun i e h=>by subst h;have:=(hlow.o _ e).1;omega) (fun i e h=>by subst h;exact HNE.o e)) (fun hY2=>?_);clear hY hK K;have hY:=hY2;clear hY2;have HM5:=aB ((hg5.block (W.heap.size+1) aq (fun e=>by have:=(hlow.o _ e.symm).1;omega)).trans ((aW _ _ bp).trans (((HWD.o.call hb3).block _ (Boxed.lt H1.o)).trans H1.o)));obtain⟨g5,cap5,rfl⟩:=nG hown5;refine aL rfl (fun K hK=>?_);rw[if_pos ae];refine bC rfl rfl rfl ([.slice (some ⟨g5,0,none⟩) (pre.length+1) cap5]) HM5.o rfl rfl d3g rfl ?_;intro w6 hB6 hX6;refine hK.o _ _ ((by first |exact eB hY hB6|exact pV hY hB6 aE aE)) ?_;clear hY hK K;intro hY;(try simp only[aK])
    refine fO ?_;exact d2y HT.o H1.o H2.o ((HWD.o.call hb3).alloc _) hown5 hg5 hB6 hX6 HG.o
   rotate_left 1
   focus
    refine aL rfl (fun K hK=>?_);go_simp;refine hK.o _ _ ((eB hY ((Bl.refl _).alloc _))) ?_;clear hY hK K;intro hY
    try have c0a:=((d2m H1.o (Bl.call HWD.o hb3)).alloc (.cells #[S ty] 9)).cell
    try have c0b:=(d2m H1.o (Bl.call HWD.o hb3)).cell
    have c0c:=(d2m H1.o HWD.o).cell;refine aL rfl (fun K hK=>?_);go_simp;refine hK.o _ _ (hY) ?_;clear hY hK K;intro hY;refine aL rfl (fun K hK=>?_);rw[if_pos ae];refine d2w (.tmp 9) (.tmp 13) rfl (W.heap.size+3) v pre.length (pre.map gg) rfl (gY ((HWD.o.call hb3).alloc _) H2.o) w3.heap.size ty rfl (aN w3 _) hlz2 aq ?_;intro v' w5 hown5 hg5 hat;refine hK.o _ _ (b8m hY hg5 (fun i e h=>by subst h;have:=(hlow.o _ e).1;omega) (fun i e h=>by subst h;exact HNE.o e)) (fun hY2=>?_);clear hY hK K;have hY:=hY2;clear hY2;have HM5:=aB ((hg5.block (W.heap.size+1) aq (fun e=>by have:=(hlow.o _ e.symm).1;omega)).trans ((aW _ _ bp).trans (((HWD.o.call hb3).block _ (Boxed.lt H1.o)).trans H1.o)));obtain⟨g5,cap5,rfl⟩:=nG hown5;refine aL rfl (fun K hK=>?_);rw[if_pos ae];refine bC rfl rfl rfl ([.slice (some ⟨g5,0,none⟩) (pre.length+1) cap5]) HM5.o rfl rfl d3g rfl ?_;intro w6 hB6 hX6;refine hK.o _ _ ((by first |exact eB hY hB6|exact pV hY hB6 aE aE)) ?_;clear hY hK K;intro hY;(try simp only[aK])
    refine fO ?_;exact d2y HT.o H1.o H2.o ((HWD.o.call hb3).alloc _) hown5 hg5 hB6 hX6 HG.o
 case done=>
  rintro D ys A hD rfl hI hK;obtain⟨v,h1,h2⟩:=hI.own;rw[List.length_range] at h2;obtain⟨va,vc,rfl⟩:=d6c h2;have c0:=h1.cell;have z0:=aJ (show A.heap[W.heap.size+1]?=_ from h1) 0;have HH:=aB (bT h1 (bT h2 (bT hI.bl hK)));have hDz:W.heap.size+3<=D:=aE;have hne:W.heap.size+1<W.heap.size+3:=aE;clear hK h1 h2 hI
  gi_wp2
  exact d5k (R:=fun w v=>(l=[]/\∃a' d',v= .slice a' 0 d')\/sW w v (l.map tx)) rfl hDz rfl rfl HH.o HFIN.o
 case stop=>
  rintro D c pre A _ _ h _;exact h.elim
theorem e1o{W:World}{sv:Value}{l:List Jo}{q:Nat->Prop}{tx:Jo->List UInt8}{fn:FuncId}(caps:Array Value)(hen:∀(args:Array Value) (w:World),(callFunc fn args).run prog w= .ok (.enter fn args) w)(hlen:l.length<=1000000)(hR:d2p fJo q W sv l)
  (hf:∀y∈l,∀(W':World) (s:Value),Bl W W'->bG q W' s (Form.ex fJo y).args->eu fn (#[.agg (fJo.cells y s).toArray]++caps) W' fun e w'=>e= .returned (S (tx y))/\Bl W' w'):
  eu 98 #[sv,.func (.func fn) #[] caps] W fun e w'=>(∃v,e= .returned v/\((l=[]/\∃a' d',v= .slice a' 0 d')\/sW w' v (l.map tx)))/\Bl W w':=by
 obtain⟨zs,hzs,hE0,hRq⟩:=d6w joZ hR;obtain⟨z,hz⟩:∃z:Wh Jo,zs≠[]->z∈zs:=by
  cases zs with
  |nil=>exact⟨joZ,fun h=>absurd rfl h⟩
  |cons q r=>exact⟨q,fun _=>by simp⟩
 have hE:=hE0.any z;obtain⟨a,cap,rfl,-⟩:=id hE;have hlz:zs.length<=1000000:=eN;have HFEW:=aB hlz;have IH:Hid (∀(p:Wh Jo) (W':World),p∈zs->Bl W W'->eu fn (#[Form.v fJo p]++caps) W' fun e w'=>e= .returned (S (tx p.1))/\Bl W' w'):=fun p W' hp hb=>hf p.1 eI W' (Form.sv fJo p) hb ((hRq p hp).bl hb);have HE:=aB hE;have HZ:=aB hz;have HFIN:Hid (∀(w:World) (v:Value),w.ownsRow (W.heap.size+3) 9 1 v zs.length ((iU zs.length).map fun j=>S (tx (zs[j]?.getD z).1))->(l=[]/\∃a' d',v= .slice a' 0 d')\/sW w v (l.map tx)):=fun w v h=>by
  have e:((iU zs.length).map fun j=>S (tx (zs[j]?.getD z).1))=(l.map tx).map fun s=>S s:=by
   rw[<-hzs];apply kX
   ·simp
   ·intro i h1 h2;have:i<zs.length:=cH;simp[this]
  rw[e] at h;have hl:zs.length=(l.map tx).length:=(by rw[<-hzs];simp);rw[hl] at h;rcases b8c h with⟨h1,h2⟩|h1
  ·exact .inl ⟨by simpa using h1,h2⟩
  ·exact .inr h1
 clear hR hf hzs hE0 hE hRq hz hlen;refine(callsIn_wide (n:=5)).1 ?_;refine callsIn_of_wp_marks func98 rfl trivial ?_ rfl;simp only[ntmps98,gG,aX,bL,Nat.reduceAdd,Nat.reduceSub,eX,eU,gH,fD,cB,bE]
 gi_wp2_with fail
 refine⟨trivial,?_⟩;refine(e4i Fence.wide 4 trivial rfl _ _ _ _).mono ?_;rintro e w' ⟨rfl,rfl⟩
 gi_wp2_with fail
 have b0:=Boxed.new W 139 (.func (.func fn) #[] caps);have b1:=Boxed.new (W.alloc (.cells #[.func (.func fn) #[] caps] 139)) 82 (.slice none 0 0);have b2:=Boxed.new ((W.alloc (.cells #[.func (.func fn) #[] caps] 139)).alloc (.cells #[.slice none 0 0] 82)) 25 (.slice a zs.length cap);simp only[aR] at b1 b2;have hB3:Bl W (((W.alloc (.cells #[.func (.func fn) #[] caps] 139)).alloc (.cells #[.slice none 0 0] 82)).alloc (.cells #[.slice a zs.length cap] 25)):=(((Bl.refl W).alloc _).alloc _).alloc _;have hsz:(((W.alloc (.cells #[.func (.func fn) #[] caps] 139)).alloc (.cells #[.slice none 0 0] 82)).alloc (.cells #[.slice a zs.length cap] 25)).heap.size=W.heap.size+3:=aa;have b0':=(b0.alloc (.cells #[.slice none 0 0] 82)).alloc (.cells #[.slice a zs.length cap] 25);have b1':=b1.alloc (.cells #[.slice a zs.length cap] 25);clear b0 b1;generalize (((W.alloc (.cells #[.func (.func fn) #[] caps] 139)).alloc (.cells #[.slice none 0 0] 82)).alloc (.cells #[.slice a zs.length cap] 25))=W3 at *;refine wpIn_rangeFunc_ownH rfl aE (gf:=184) (lb:= #[.pointer (some ⟨W.heap.size+1+1,0,none⟩)]) rfl trivial (enters_of func184 ab rfl)
  (d9y z Fence.wide (5-1) trivial rfl aE (W.heap.size+1+1) W.heap.size _ zs HFEW.o W3 aE aE b2.cell (HE.o.below hB3)) belowK_t (belowK_b aE) (bS _ _) (fun _=>rfl)
  (d8a W 139 (.func (.func fn) #[] caps) fun j:Nat=>S (tx (zs[j]?.getD z).1)) (fun _ _ _=>False)
  (d5w W _ _ _ _ aE) (fun _ _ _ _ _ hs _ _=>hs)
  ⟨⟨_,b1',d2l _ _ _ _⟩,b0',hB3,by omega⟩
  (fun(j:Nat) a' A=>∃Bx,W.heap.size+3<=Bx/\A.heap[Bx]?=some (.cells (fJo.cells (zs[j]?.getD z).1 (Form.sv fJo (zs[j]?.getD z))).toArray 78 (0,0))/\
   a'={tmps:= #[.slice a zs.length cap,.func (.func fn) #[] caps,undef,.pointer (some ⟨W.heap.size,0,none⟩),.pointer (some ⟨W.heap.size+1,0,none⟩),.pointer (some ⟨Bx,0,none⟩),.slice a zs.length cap,.func (.func 184) #[] #[.pointer (some ⟨W.heap.size+1+1,0,none⟩)],Form.v fJo (zs[j]?.getD z),undef,undef,undef,undef,undef,undef,undef],defers:=[]})
  (fun j a' _ A B row hs hg hr=>by
   obtain⟨Bx,h0,h1,h2⟩:=hs;refine⟨Bx,h0,(hg.block Bx (aC.1 h1).1 (fun e=>?_)).trans h1,h2⟩;obtain⟨-,o,ho,hc⟩:=hr Bx e.symm;rw[h1] at ho;cases ho;cases hc)
  ?assign ?body ?done ?stop
 case assign=>
  rintro l pre j A K hI hK;have hIz:=hI.z
  revert hK
  generalize zs[j]?.getD z=p;obtain⟨⟨⟨jt,jal⟩,⟨zk,⟨z1,z2,z3⟩,zt,zn,zo,za⟩⟩,ad,ca⟩:=p;have hv:Form.v fJo (⟨⟨jt,jal⟩,⟨zk,⟨z1,z2,z3⟩,zt,zn,zo,za⟩⟩,ad,ca)= .agg #[S jt,S jal,.int .i64 zk,.int .i64 z1,.int .i64 z2,S z3,S zt,S zn,.int .i64 zo,.slice ad za.length ca]:=rfl;rw[hv];intro hK
  gi_wp2
  exact hK _ _ ((KeepsOthers.alloc _ _).from _) ((bS _ A).alloc hI.bl.size _) (hI.alloc _) ⟨A.heap.size,by omega,aN A _,rfl⟩
 case body=>
  rintro l pre j a' A hl ⟨r,hr⟩ hI ⟨Bx,hBx,hX,rfl⟩ hpl;have hmem:zs[j]?.getD z∈zs:=d6y (HZ.o (fun e=>by rw[e] at hpl;simp at hpl)) j;have HT:=aB hI;have HC:=aB (fun W' hb=>IH.o (zs[j]?.getD z) W' hmem hb);have HG:Hid ((fun j:Nat=>S (tx (zs[j]?.getD z).1)) j=S (tx (zs[j]?.getD z).1)):=rfl;generalize (fun j:Nat=>S (tx (zs[j]?.getD z).1))=gg at *;generalize zs[j]?.getD z=p at *;obtain⟨ty,hty⟩:∃ty,tx p.1=ty:=⟨_,rfl⟩
  rw[hty] at HG HC;clear hmem hty hr;obtain⟨⟨⟨jt,jal⟩,⟨zk,⟨z1,z2,z3⟩,zt,zn,zo,za⟩⟩,ad,ca⟩:=p;have hv:Form.v fJo (⟨⟨jt,jal⟩,⟨zk,⟨z1,z2,z3⟩,zt,zn,zo,za⟩⟩,ad,ca)= .agg #[S jt,S jal,.int .i64 zk,.int .i64 z1,.int .i64 z2,S z3,S zt,S zn,.int .i64 zo,.slice ad za.length ca]:=rfl;rw[hv] at HC⊢
  replace hX:A.heap[Bx]?=some (.cells #[S jt,S jal,.int .i64 zk,.int .i64 z1,.int .i64 z2,S z3,S zt,S zn,.int .i64 zo,.slice ad za.length ca] 78 (0,0)):=hX
  clear hv;obtain⟨v,h1,h2⟩:=hI.own;have H1:=aB h1;have H2:=aB h2;have hlow:=aB h2.lt;have HNE:Hid (v.ownBlock≠some Bx):=own_ne h2 hX ak;have hz:=hI.z;have hlz2:pre.length<=1000000:=(by have:=HFEW.o;omega);clear hI h2
  gi_wp2_with fail
  refine(d3p (fun B=>B.heap[W.heap.size]?=some (.cells #[.func (.func fn) #[] caps] 139 (0,0))/\B.heap[Bx]?=some (.cells #[S jt,S jal,.int .i64 zk,.int .i64 z1,.int .i64 z2,S z3,S zt,S zn,.int .i64 zo,.slice ad za.length ca] 78 (0,0))) ((.take 1 (.take 2 (.two 0 3 (.one 3 (.one 4 (.one 5 (.one 6 .done)))) (.two 0 4 (.one 4 (.one 5 (.one 6 .done))) (.one 0 (.one 5 (.one 6 .done)))))))) ab ab ab (fun c a d v w h=>by cases d<;>exact h) ab (fun a w h=>h) (eB ⟨HT.o.f,hX⟩ ((Bl.refl _).drew)) ?_);intro wd HWD hY;refine aI rfl ae du ?_;(try simp only[aK,aA,aD,aF])
  refine aI rfl ae (fun w hSw=>eD rfl rfl hSw.2 underlying78 rfl e3s) ?_;(try simp only[aK,aA,aD,aF])
  refine sZ ?_ ?_
  focus
   try have c0a:=((d2m H1.o (Bl.call HWD.o hb3)).alloc (.cells #[S ty] 9)).cell
   try have c0b:=(d2m H1.o (Bl.call HWD.o hb3)).cell
   have c0c:=(d2m H1.o HWD.o).cell;refine aL rfl (fun K hK=>?_);go_simp;refine hK.o _ _ (hY) ?_;clear hY hK K;intro hY;refine aL rfl (fun K hK=>?_);go_simp;(refine(HC.o _ (Bl.call HT.o.bl HWD.o)).mono ?_;rintro e w3 ⟨rfl,hb3⟩;have hb:=hb3);go_wp2_with fail;refine hK.o _ _ ((by first |exact eB hY hb|exact pV hY hb aE aE)) ?_;clear hY hK K;intro hY;clear hb;refine aL rfl (fun K hK=>?_);go_simp;refine hK.o _ _ ((eB hY ((Bl.refl _).alloc _))) ?_;clear hY hK K;intro hY;refine aL rfl (fun K hK=>?_);rw[if_pos ae];refine d2w (.tmp 9) (.tmp 13) rfl (W.heap.size+3) v pre.length (pre.map gg) rfl (gY ((HWD.o.call hb3).alloc _) H2.o) w3.heap.size ty rfl (aN w3 _) hlz2 aq ?_;intro v' w5 hown5 hg5 hat;refine hK.o _ _ (b8m hY hg5 (fun i e h=>by subst h;have:=(hlow.o _ e).1;omega) (fun i e h=>by subst h;exact HNE.o e)) (fun hY2=>?_);clear hY hK K;have hY:=hY2;clear hY2;have HM5:=aB ((hg5.block (W.heap.size+1) aq (fun e=>by have:=(hlow.o _ e.symm).1;omega)).trans ((aW _ _ bp).trans (((HWD.o.call hb3).block _ (Boxed.lt H1.o)).trans H1.o)));obtain⟨g5,cap5,rfl⟩:=nG hown5;refine aL rfl (fun K hK=>?_);rw[if_pos ae];refine bC rfl rfl rfl ([.slice (some ⟨g5,0,none⟩) (pre.length+1) cap5]) HM5.o rfl rfl d3g rfl ?_;intro w6 hB6 hX6;refine hK.o _ _ ((by first |exact eB hY hB6|exact pV hY hB6 aE aE)) ?_;clear hY hK K;intro hY;(try simp only[aK])
   refine fO ?_;exact d2y HT.o H1.o H2.o ((HWD.o.call hb3).alloc _) hown5 hg5 hB6 hX6 HG.o
  rotate_left 1
  focus
   refine aL rfl (fun K hK=>?_);go_simp;(refine(HC.o _ (Bl.call HT.o.bl HWD.o)).mono ?_;rintro e w3 ⟨rfl,hb3⟩;have hb:=hb3);go_wp2_with fail;refine hK.o _ _ ((by first |exact eB hY hb|exact pV hY hb aE aE)) ?_;clear hY hK K;intro hY;clear hb;refine sZ ?_ ?_
   focus
    try have c0a:=((d2m H1.o (Bl.call HWD.o hb3)).alloc (.cells #[S ty] 9)).cell
    try have c0b:=(d2m H1.o (Bl.call HWD.o hb3)).cell
    have c0c:=(d2m H1.o HWD.o).cell;refine aL rfl (fun K hK=>?_);go_simp;refine hK.o _ _ (hY) ?_;clear hY hK K;intro hY;refine aL rfl (fun K hK=>?_);go_simp;refine hK.o _ _ ((eB hY ((Bl.refl _).alloc _))) ?_;clear hY hK K;intro hY;refine aL rfl (fun K hK=>?_);rw[if_pos ae];refine d2w (.tmp 9) (.tmp 13) rfl (W.heap.size+3) v pre.length (pre.map gg) rfl (gY ((HWD.o.call hb3).alloc _) H2.o) w3.heap.size ty rfl (aN w3 _) hlz2 aq ?_;intro v' w5 hown5 hg5 hat;refine hK.o _ _ (b8m hY hg5 (fun i e h=>by subst h;have:=(hlow.o _ e).1;omega) (fun i e h=>by subst h;exact HNE.o e)) (fun hY2=>?_);clear hY hK K;have hY:=hY2;clear hY2;have HM5:=aB ((hg5.block (W.heap.size+1) aq (fun e=>by have:=(hlow.o _ e.symm).1;omega)).trans ((aW _ _ bp).trans (((HWD.o.call hb3).block _ (Boxed.lt H1.o)).trans H1.o)));obtain⟨g5,cap5,rfl⟩:=nG hown5;refine aL rfl (fun K hK=>?_);rw[if_pos ae];refine bC rfl rfl rfl ([.slice (some ⟨g5,0,none⟩) (pre.length+1) cap5]) HM5.o rfl rfl d3g rfl ?_;intro w6 hB6 hX6;refine hK.o _ _ ((by first |exact eB hY hB6|exact pV hY hB6 aE aE)) ?_;clear hY hK K;intro hY;(try simp only[aK])
    refine fO ?_;exact d2y HT.o H1.o H2.o ((HWD.o.call hb3).alloc _) hown5 hg5 hB6 hX6 HG.o
   rotate_left 1
   focus
    refine aL rfl (fun K hK=>?_);go_simp;refine hK.o _ _ ((eB hY ((Bl.refl _).alloc _))) ?_;clear hY hK K;intro hY
    try have c0a:=((d2m H1.o (Bl.call HWD.o hb3)).alloc (.cells #[S ty] 9)).cell
    try have c0b:=(d2m H1.o (Bl.call HWD.o hb3)).cell
    have c0c:=(d2m H1.o HWD.o).cell;refine aL rfl (fun K hK=>?_);go_simp;refine hK.o _ _ (hY) ?_;clear hY hK K;intro hY;refine aL rfl (fun K hK=>?_);rw[if_pos ae];refine d2w (.tmp 9) (.tmp 13) rfl (W.heap.size+3) v pre.length (pre.map gg) rfl (gY ((HWD.o.call hb3).alloc _) H2.o) w3.heap.size ty rfl (aN w3 _) hlz2 aq ?_;intro v' w5 hown5 hg5 hat;refine hK.o _ _ (b8m hY hg5 (fun i e h=>by subst h;have:=(hlow.o _ e).1;omega) (fun i e h=>by subst h;exact HNE.o e)) (fun hY2=>?_);clear hY hK K;have hY:=hY2;clear hY2;have HM5:=aB ((hg5.block (W.heap.size+1) aq (fun e=>by have:=(hlow.o _ e.symm).1;omega)).trans ((aW _ _ bp).trans (((HWD.o.call hb3).block _ (Boxed.lt H1.o)).trans H1.o)));obtain⟨g5,cap5,rfl⟩:=nG hown5;refine aL rfl (fun K hK=>?_);rw[if_pos ae];refine bC rfl rfl rfl ([.slice (some ⟨g5,0,none⟩) (pre.length+1) cap5]) HM5.o rfl rfl d3g rfl ?_;intro w6 hB6 hX6;refine hK.o _ _ ((by first |exact eB hY hB6|exact pV hY hB6 aE aE)) ?_;clear hY hK K;intro hY;(try simp only[aK])
    refine fO ?_;exact d2y HT.o H1.o H2.o ((HWD.o.call hb3).alloc _) hown5 hg5 hB6 hX6 HG.o
 case done=>
  rintro D ys A hD rfl hI hK;obtain⟨v,h1,h2⟩:=hI.own;rw[List.length_range] at h2;obtain⟨va,vc,rfl⟩:=d6c h2;have c0:=h1.cell;have z0:=aJ (show A.heap[W.heap.size+1]?=_ from h1) 0;have HH:=aB (bT h1 (bT h2 (bT hI.bl hK)));have hDz:W.heap.size+3<=D:=aE;have hne:W.heap.size+1<W.heap.size+3:=aE;clear hK h1 h2 hI
  gi_wp2
  exact d5k (R:=fun w v=>(l=[]/\∃a' d',v= .slice a' 0 d')\/sW w v (l.map tx)) rfl hDz rfl rfl HH.o HFIN.o
 case stop=>
  rintro D c pre A _ _ h _;exact h.elim
theorem e1q{W:World}{sv:Value}{l:List Ex}{q:Nat->Prop}{tx:Ex->List UInt8}{fn:FuncId}(caps:Array Value)(hen:∀(args:Array Value) (w:World),(callFunc fn args).run prog w= .ok (.enter fn args) w)(hlen:l.length<=1000000)(hR:d2p fEx q W sv l)
  (hf:∀y∈l,∀(W':World) (s:Value),Bl W W'->bG q W' s (Form.ex fEx y).args->eu fn (#[.agg (fEx.cells y s).toArray]++caps) W' fun e w'=>e= .returned (S (tx y))/\Bl W' w'):
  eu 103 #[sv,.func (.func fn) #[] caps] W fun e w'=>(∃v,e= .returned v/\((l=[]/\∃a' d',v= .slice a' 0 d')\/sW w' v (l.map tx)))/\Bl W w':=by
 obtain⟨zs,hzs,hE0,hRq⟩:=d6w qz hR;obtain⟨z,hz⟩:∃z:Wh Ex,zs≠[]->z∈zs:=by
  cases zs with
  |nil=>exact⟨qz,fun h=>absurd rfl h⟩
  |cons q r=>exact⟨q,fun _=>by simp⟩
 have hE:=hE0.any z;obtain⟨a,cap,rfl,-⟩:=id hE;have hlz:zs.length<=1000000:=eN;have HFEW:=aB hlz;have IH:Hid (∀(p:Wh Ex) (W':World),p∈zs->Bl W W'->eu fn (#[Form.v fEx p]++caps) W' fun e w'=>e= .returned (S (tx p.1))/\Bl W' w'):=fun p W' hp hb=>hf p.1 eI W' (Form.sv fEx p) hb ((hRq p hp).bl hb);have HE:=aB hE;have HZ:=aB hz;have HFIN:Hid (∀(w:World) (v:Value),w.ownsRow (W.heap.size+3) 9 1 v zs.length ((iU zs.length).map fun j=>S (tx (zs[j]?.getD z).1))->(l=[]/\∃a' d',v= .slice a' 0 d')\/sW w v (l.map tx)):=fun w v h=>by
  have e:((iU zs.length).map fun j=>S (tx (zs[j]?.getD z).1))=(l.map tx).map fun s=>S s:=by
   rw[<-hzs];apply kX
   ·simp
   ·intro i h1 h2;have:i<zs.length:=cH;simp[this]
  rw[e] at h;have hl:zs.length=(l.map tx).length:=(by rw[<-hzs];simp);rw[hl] at h;rcases b8c h with⟨h1,h2⟩|h1
  ·exact .inl ⟨by simpa using h1,h2⟩
  ·exact .inr h1
 clear hR hf hzs hE0 hE hRq hz hlen;refine(callsIn_wide (n:=5)).1 ?_;refine callsIn_of_wp_marks func103 rfl trivial ?_ rfl;simp only[ntmps103,gG,aX,bL,Nat.reduceAdd,Nat.reduceSub,eX,eU,gH,fD,cB,bE]
 gi_wp2_with fail
 refine⟨trivial,?_⟩;refine(e4k Fence.wide 4 trivial rfl _ _ _ _).mono ?_;rintro e w' ⟨rfl,rfl⟩
 gi_wp2_with fail
 have b0:=Boxed.new W 130 (.func (.func fn) #[] caps);have b1:=Boxed.new (W.alloc (.cells #[.func (.func fn) #[] caps] 130)) 82 (.slice none 0 0);have b2:=Boxed.new ((W.alloc (.cells #[.func (.func fn) #[] caps] 130)).alloc (.cells #[.slice none 0 0] 82)) 31 (.slice a zs.length cap);simp only[aR] at b1 b2;have hB3:Bl W (((W.alloc (.cells #[.func (.func fn) #[] caps] 130)).alloc (.cells #[.slice none 0 0] 82)).alloc (.cells #[.slice a zs.length cap] 31)):=(((Bl.refl W).alloc _).alloc _).alloc _;have hsz:(((W.alloc (.cells #[.func (.func fn) #[] caps] 130)).alloc (.cells #[.slice none 0 0] 82)).alloc (.cells #[.slice a zs.length cap] 31)).heap.size=W.heap.size+3:=aa;have b0':=(b0.alloc (.cells #[.slice none 0 0] 82)).alloc (.cells #[.slice a zs.length cap] 31);have b1':=b1.alloc (.cells #[.slice a zs.length cap] 31);clear b0 b1;generalize (((W.alloc (.cells #[.func (.func fn) #[] caps] 130)).alloc (.cells #[.slice none 0 0] 82)).alloc (.cells #[.slice a zs.length cap] 31))=W3 at *;refine wpIn_rangeFunc_ownH rfl aE (gf:=186) (lb:= #[.pointer (some ⟨W.heap.size+1+1,0,none⟩)]) rfl trivial (enters_of func186 ab rfl)
  (e0a z Fence.wide (5-1) trivial rfl aE (W.heap.size+1+1) W.heap.size _ zs HFEW.o W3 aE aE b2.cell (HE.o.below hB3)) belowK_t (belowK_b aE) (bS _ _) (fun _=>rfl)
  (d8a W 130 (.func (.func fn) #[] caps) fun j:Nat=>S (tx (zs[j]?.getD z).1)) (fun _ _ _=>False)
  (d5w W _ _ _ _ aE) (fun _ _ _ _ _ hs _ _=>hs)
  ⟨⟨_,b1',d2l _ _ _ _⟩,b0',hB3,by omega⟩
  (fun(j:Nat) a' A=>∃Bx,W.heap.size+3<=Bx/\A.heap[Bx]?=some (.cells (fEx.cells (zs[j]?.getD z).1 (Form.sv fEx (zs[j]?.getD z))).toArray 33 (0,0))/\
   a'={tmps:= #[.slice a zs.length cap,.func (.func fn) #[] caps,undef,.pointer (some ⟨W.heap.size,0,none⟩),.pointer (some ⟨W.heap.size+1,0,none⟩),.pointer (some ⟨Bx,0,none⟩),.slice a zs.length cap,.func (.func 186) #[] #[.pointer (some ⟨W.heap.size+1+1,0,none⟩)],Form.v fEx (zs[j]?.getD z),undef,undef,undef,undef,undef,undef,undef],defers:=[]})
  (fun j a' _ A B row hs hg hr=>by
   obtain⟨Bx,h0,h1,h2⟩:=hs;refine⟨Bx,h0,(hg.block Bx (aC.1 h1).1 (fun e=>?_)).trans h1,h2⟩;obtain⟨-,o,ho,hc⟩:=hr Bx e.symm;rw[h1] at ho;cases ho;cases hc)
  ?assign ?body ?done ?stop
 case assign=>
  rintro l pre j A K hI hK;have hIz:=hI.z
  revert hK
  generalize zs[j]?.getD z=p;obtain⟨⟨zk,⟨z1,z2,z3⟩,zt,zn,zo,za⟩,ad,ca⟩:=p;have hv:Form.v fEx (⟨zk,⟨z1,z2,z3⟩,zt,zn,zo,za⟩,ad,ca)= .agg #[.int .i64 zk,.int .i64 z1,.int .i64 z2,S z3,S zt,S zn,.int .i64 zo,.slice ad za.length ca]:=rfl;rw[hv];intro hK
  gi_wp2
  exact hK _ _ ((KeepsOthers.alloc _ _).from _) ((bS _ A).alloc hI.bl.size _) (hI.alloc _) ⟨A.heap.size,by omega,aN A _,rfl⟩
 case body=>
  rintro l pre j a' A hl ⟨r,hr⟩ hI ⟨Bx,hBx,hX,rfl⟩ hpl;have hmem:zs[j]?.getD z∈zs:=d6y (HZ.o (fun e=>by rw[e] at hpl;simp at hpl)) j;have HT:=aB hI;have HC:=aB (fun W' hb=>IH.o (zs[j]?.getD z) W' hmem hb);have HG:Hid ((fun j:Nat=>S (tx (zs[j]?.getD z).1)) j=S (tx (zs[j]?.getD z).1)):=rfl;generalize (fun j:Nat=>S (tx (zs[j]?.getD z).1))=gg at *;generalize zs[j]?.getD z=p at *;obtain⟨ty,hty⟩:∃ty,tx p.1=ty:=⟨_,rfl⟩
  rw[hty] at HG HC;clear hmem hty hr;obtain⟨⟨zk,⟨z1,z2,z3⟩,zt,zn,zo,za⟩,ad,ca⟩:=p;have hv:Form.v fEx (⟨zk,⟨z1,z2,z3⟩,zt,zn,zo,za⟩,ad,ca)= .agg #[.int .i64 zk,.int .i64 z1,.int .i64 z2,S z3,S zt,S zn,.int .i64 zo,.slice ad za.length ca]:=rfl;rw[hv] at HC⊢
  replace hX:A.heap[Bx]?=some (.cells #[.int .i64 zk,.int .i64 z1,.int .i64 z2,S z3,S zt,S zn,.int .i64 zo,.slice ad za.length ca] 33 (0,0)):=hX
  clear hv;obtain⟨v,h1,h2⟩:=hI.own;have H1:=aB h1;have H2:=aB h2;have hlow:=aB h2.lt;have HNE:Hid (v.ownBlock≠some Bx):=own_ne h2 hX ak;have hz:=hI.z;have hlz2:pre.length<=1000000:=(by have:=HFEW.o;omega);clear hI h2
  gi_wp2_with fail
  refine(d3p (fun B=>B.heap[W.heap.size]?=some (.cells #[.func (.func fn) #[] caps] 130 (0,0))/\B.heap[Bx]?=some (.cells #[.int .i64 zk,.int .i64 z1,.int .i64 z2,S z3,S zt,S zn,.int .i64 zo,.slice ad za.length ca] 33 (0,0))) ((.take 1 (.take 2 (.two 0 3 (.one 3 (.one 4 (.one 5 (.one 6 .done)))) (.two 0 4 (.one 4 (.one 5 (.one 6 .done))) (.one 0 (.one 5 (.one 6 .done)))))))) ab ab ab (fun c a d v w h=>by cases d<;>exact h) ab (fun a w h=>h) (eB ⟨HT.o.f,hX⟩ ((Bl.refl _).drew)) ?_);intro wd HWD hY;refine aI rfl ae du ?_;(try simp only[aK,aA,aD,aF])
  refine aI rfl ae (fun w hSw=>eD rfl rfl hSw.2 underlying33 rfl d4b) ?_;(try simp only[aK,aA,aD,aF])
  refine sZ ?_ ?_
  focus
   try have c0a:=((d2m H1.o (Bl.call HWD.o hb3)).alloc (.cells #[S ty] 9)).cell
   try have c0b:=(d2m H1.o (Bl.call HWD.o hb3)).cell
   have c0c:=(d2m H1.o HWD.o).cell;refine aL rfl (fun K hK=>?_);go_simp;refine hK.o _ _ (hY) ?_;clear hY hK K;intro hY;refine aL rfl (fun K hK=>?_);go_simp;(refine(HC.o _ (Bl.call HT.o.bl HWD.o)).mono ?_;rintro e w3 ⟨rfl,hb3⟩;have hb:=hb3);go_wp2_with fail;refine hK.o _ _ ((by first |exact eB hY hb|exact pV hY hb aE aE)) ?_;clear hY hK K;intro hY;clear hb;refine aL rfl (fun K hK=>?_);go_simp;refine hK.o _ _ ((eB hY ((Bl.refl _).alloc _))) ?_;clear hY hK K;intro hY;refine aL rfl (fun K hK=>?_);rw[if_pos ae];refine d2w (.tmp 9) (.tmp 13) rfl (W.heap.size+3) v pre.length (pre.map gg) rfl (gY ((HWD.o.call hb3).alloc _) H2.o) w3.heap.size ty rfl (aN w3 _) hlz2 aq ?_;intro v' w5 hown5 hg5 hat;refine hK.o _ _ (b8m hY hg5 (fun i e h=>by subst h;have:=(hlow.o _ e).1;omega) (fun i e h=>by subst h;exact HNE.o e)) (fun hY2=>?_);clear hY hK K;have hY:=hY2;clear hY2;have HM5:=aB ((hg5.block (W.heap.size+1) aq (fun e=>by have:=(hlow.o _ e.symm).1;omega)).trans ((aW _ _ bp).trans (((HWD.o.call hb3).block _ (Boxed.lt H1.o)).trans H1.o)));obtain⟨g5,cap5,rfl⟩:=nG hown5;refine aL rfl (fun K hK=>?_);rw[if_pos ae];refine bC rfl rfl rfl ([.slice (some ⟨g5,0,none⟩) (pre.length+1) cap5]) HM5.o rfl rfl d3g rfl ?_;intro w6 hB6 hX6;refine hK.o _ _ ((by first |exact eB hY hB6|exact pV hY hB6 aE aE)) ?_;clear hY hK K;intro hY;(try simp only[aK])
   refine fO ?_;exact d2y HT.o H1.o H2.o ((HWD.o.call hb3).alloc _) hown5 hg5 hB6 hX6 HG.o
  rotate_left 1
  focus
   refine aL rfl (fun K hK=>?_);go_simp;(refine(HC.o _ (Bl.call HT.o.bl HWD.o)).mono ?_;rintro e w3 ⟨rfl,hb3⟩;have hb:=hb3);go_wp2_with fail;refine hK.o _ _ ((by first |exact eB hY hb|exact pV hY hb aE aE)) ?_;clear hY hK K;intro hY;clear hb;refine sZ ?_ ?_
   focus
    try have c0a:=((d2m H1.o (Bl.call HWD.o hb3)).alloc (.cells #[S ty] 9)).cell
    try have c0b:=(d2m H1.o (Bl.call HWD.o hb3)).cell
    have c0c:=(d2m H1.o HWD.o).cell;refine aL rfl (fun K hK=>?_);go_simp;refine hK.o _ _ (hY) ?_;clear hY hK K;intro hY;refine aL rfl (fun K hK=>?_);go_simp;refine hK.o _ _ ((eB hY ((Bl.refl _).alloc _))) ?_;clear hY hK K;intro hY;refine aL rfl (fun K hK=>?_);rw[if_pos ae];refine d2w (.tmp 9) (.tmp 13) rfl (W.heap.size+3) v pre.length (pre.map gg) rfl (gY ((HWD.o.call hb3).alloc _) H2.o) w3.heap.size ty rfl (aN w3 _) hlz2 aq ?_;intro v' w5 hown5 hg5 hat;refine hK.o _ _ (b8m hY hg5 (fun i e h=>by subst h;have:=(hlow.o _ e).1;omega) (fun i e h=>by subst h;exact HNE.o e)) (fun hY2=>?_);clear hY hK K;have hY:=hY2;clear hY2;have HM5:=aB ((hg5.block (W.heap.size+1) aq (fun e=>by have:=(hlow.o _ e.symm).1;omega)).trans ((aW _ _ bp).trans (((HWD.o.call hb3).block _ (Boxed.lt H1.o)).trans H1.o)));obtain⟨g5,cap5,rfl⟩:=nG hown5;refine aL rfl (fun K hK=>?_);rw[if_pos ae];refine bC rfl rfl rfl ([.slice (some ⟨g5,0,none⟩) (pre.length+1) cap5]) HM5.o rfl rfl d3g rfl ?_;intro w6 hB6 hX6;refine hK.o _ _ ((by first |exact eB hY hB6|exact pV hY hB6 aE aE)) ?_;clear hY hK K;intro hY;(try simp only[aK])
    refine fO ?_;exact d2y HT.o H1.o H2.o ((HWD.o.call hb3).alloc _) hown5 hg5 hB6 hX6 HG.o
   rotate_left 1
   focus
    refine aL rfl (fun K hK=>?_);go_simp;refine hK.o _ _ ((eB hY ((Bl.refl _).alloc _))) ?_;clear hY hK K;intro hY
    try have c0a:=((d2m H1.o (Bl.call HWD.o hb3)).alloc (.cells #[S ty] 9)).cell
    try have c0b:=(d2m H1.o (Bl.call HWD.o hb3)).cell
    have c0c:=(d2m H1.o HWD.o).cell;refine aL rfl (fun K hK=>?_);go_simp;refine hK.o _ _ (hY) ?_;clear hY hK K;intro hY;refine aL rfl (fun K hK=>?_);rw[if_pos ae];refine d2w (.tmp 9) (.tmp 13) rfl (W.heap.size+3) v pre.length (pre.map gg) rfl (gY ((HWD.o.call hb3).alloc _) H2.o) w3.heap.size ty rfl (aN w3 _) hlz2 aq ?_;intro v' w5 hown5 hg5 hat;refine hK.o _ _ (b8m hY hg5 (fun i e h=>by subst h;have:=(hlow.o _ e).1;omega) (fun i e h=>by subst h;exact HNE.o e)) (fun hY2=>?_);clear hY hK K;have hY:=hY2;clear hY2;have HM5:=aB ((hg5.block (W.heap.size+1) aq (fun e=>by have:=(hlow.o _ e.symm).1;omega)).trans ((aW _ _ bp).trans (((HWD.o.call hb3).block _ (Boxed.lt H1.o)).trans H1.o)));obtain⟨g5,cap5,rfl⟩:=nG hown5;refine aL rfl (fun K hK=>?_);rw[if_pos ae];refine bC rfl rfl rfl ([.slice (some ⟨g5,0,none⟩) (pre.length+1) cap5]) HM5.o rfl rfl d3g rfl ?_;intro w6 hB6 hX6;refine hK.o _ _ ((by first |exact eB hY hB6|exact pV hY hB6 aE aE)) ?_;clear hY hK K;intro hY;(try simp only[aK])
    refine fO ?_;exact d2y HT.o H1.o H2.o ((HWD.o.call hb3).alloc _) hown5 hg5 hB6 hX6 HG.o
 case done=>
  rintro D ys A hD rfl hI hK;obtain⟨v,h1,h2⟩:=hI.own;rw[List.length_range] at h2;obtain⟨va,vc,rfl⟩:=d6c h2;have c0:=h1.cell;have z0:=aJ (show A.heap[W.heap.size+1]?=_ from h1) 0;have HH:=aB (bT h1 (bT h2 (bT hI.bl hK)));have hDz:W.heap.size+3<=D:=aE;have hne:W.heap.size+1<W.heap.size+3:=aE;clear hK h1 h2 hI
  gi_wp2
  exact d5k (R:=fun w v=>(l=[]/\∃a' d',v= .slice a' 0 d')\/sW w v (l.map tx)) rfl hDz rfl rfl HH.o HFIN.o
 case stop=>
  rintro D c pre A _ _ h _;exact h.elim
theorem e1n{W:World}{sv:Value}{l:List Od}{q:Nat->Prop}{tx:Od->List UInt8}{fn:FuncId}(caps:Array Value)(hen:∀(args:Array Value) (w:World),(callFunc fn args).run prog w= .ok (.enter fn args) w)(hlen:l.length<=1000000)(hR:d2p fOd q W sv l)
  (hf:∀y∈l,∀(W':World) (s:Value),Bl W W'->bG q W' s (Form.ex fOd y).args->eu fn (#[.agg (fOd.cells y s).toArray]++caps) W' fun e w'=>e= .returned (S (tx y))/\Bl W' w'):
  eu 106 #[sv,.func (.func fn) #[] caps] W fun e w'=>(∃v,e= .returned v/\((l=[]/\∃a' d',v= .slice a' 0 d')\/sW w' v (l.map tx)))/\Bl W w':=by
 obtain⟨zs,hzs,hE0,hRq⟩:=d6w odZ hR;obtain⟨z,hz⟩:∃z:Wh Od,zs≠[]->z∈zs:=by
  cases zs with
  |nil=>exact⟨odZ,fun h=>absurd rfl h⟩
  |cons q r=>exact⟨q,fun _=>by simp⟩
 have hE:=hE0.any z;obtain⟨a,cap,rfl,-⟩:=id hE;have hlz:zs.length<=1000000:=eN;have HFEW:=aB hlz;have IH:Hid (∀(p:Wh Od) (W':World),p∈zs->Bl W W'->eu fn (#[Form.v fOd p]++caps) W' fun e w'=>e= .returned (S (tx p.1))/\Bl W' w'):=fun p W' hp hb=>hf p.1 eI W' (Form.sv fOd p) hb ((hRq p hp).bl hb);have HE:=aB hE;have HZ:=aB hz;have HFIN:Hid (∀(w:World) (v:Value),w.ownsRow (W.heap.size+3) 9 1 v zs.length ((iU zs.length).map fun j=>S (tx (zs[j]?.getD z).1))->(l=[]/\∃a' d',v= .slice a' 0 d')\/sW w v (l.map tx)):=fun w v h=>by
  have e:((iU zs.length).map fun j=>S (tx (zs[j]?.getD z).1))=(l.map tx).map fun s=>S s:=by
   rw[<-hzs];apply kX
   ·simp
   ·intro i h1 h2;have:i<zs.length:=cH;simp[this]
  rw[e] at h;have hl:zs.length=(l.map tx).length:=(by rw[<-hzs];simp);rw[hl] at h;rcases b8c h with⟨h1,h2⟩|h1
  ·exact .inl ⟨by simpa using h1,h2⟩
  ·exact .inr h1
 clear hR hf hzs hE0 hE hRq hz hlen;refine(callsIn_wide (n:=5)).1 ?_;refine callsIn_of_wp_marks func106 rfl trivial ?_ rfl;simp only[ntmps106,gG,aX,bL,Nat.reduceAdd,Nat.reduceSub,eX,eU,gH,fD,cB,bE]
 gi_wp2_with fail
 refine⟨trivial,?_⟩;refine(e4h Fence.wide 4 trivial rfl _ _ _ _).mono ?_;rintro e w' ⟨rfl,rfl⟩
 gi_wp2_with fail
 have b0:=Boxed.new W 142 (.func (.func fn) #[] caps);have b1:=Boxed.new (W.alloc (.cells #[.func (.func fn) #[] caps] 142)) 82 (.slice none 0 0);have b2:=Boxed.new ((W.alloc (.cells #[.func (.func fn) #[] caps] 142)).alloc (.cells #[.slice none 0 0] 82)) 34 (.slice a zs.length cap);simp only[aR] at b1 b2;have hB3:Bl W (((W.alloc (.cells #[.func (.func fn) #[] caps] 142)).alloc (.cells #[.slice none 0 0] 82)).alloc (.cells #[.slice a zs.length cap] 34)):=(((Bl.refl W).alloc _).alloc _).alloc _;have hsz:(((W.alloc (.cells #[.func (.func fn) #[] caps] 142)).alloc (.cells #[.slice none 0 0] 82)).alloc (.cells #[.slice a zs.length cap] 34)).heap.size=W.heap.size+3:=aa;have b0':=(b0.alloc (.cells #[.slice none 0 0] 82)).alloc (.cells #[.slice a zs.length cap] 34);have b1':=b1.alloc (.cells #[.slice a zs.length cap] 34);clear b0 b1;generalize (((W.alloc (.cells #[.func (.func fn) #[] caps] 142)).alloc (.cells #[.slice none 0 0] 82)).alloc (.cells #[.slice a zs.length cap] 34))=W3 at *;refine wpIn_rangeFunc_ownH rfl aE (gf:=187) (lb:= #[.pointer (some ⟨W.heap.size+1+1,0,none⟩)]) rfl trivial (enters_of func187 ab rfl)
  (d9x z Fence.wide (5-1) trivial rfl aE (W.heap.size+1+1) W.heap.size _ zs HFEW.o W3 aE aE b2.cell (HE.o.below hB3)) belowK_t (belowK_b aE) (bS _ _) (fun _=>rfl)
  (d8a W 142 (.func (.func fn) #[] caps) fun j:Nat=>S (tx (zs[j]?.getD z).1)) (fun _ _ _=>False)
  (d5w W _ _ _ _ aE) (fun _ _ _ _ _ hs _ _=>hs)
  ⟨⟨_,b1',d2l _ _ _ _⟩,b0',hB3,by omega⟩
  (fun(j:Nat) a' A=>∃Bx,W.heap.size+3<=Bx/\A.heap[Bx]?=some (.cells (fOd.cells (zs[j]?.getD z).1 (Form.sv fOd (zs[j]?.getD z))).toArray 80 (0,0))/\
   a'={tmps:= #[.slice a zs.length cap,.func (.func fn) #[] caps,undef,.pointer (some ⟨W.heap.size,0,none⟩),.pointer (some ⟨W.heap.size+1,0,none⟩),.pointer (some ⟨Bx,0,none⟩),.slice a zs.length cap,.func (.func 187) #[] #[.pointer (some ⟨W.heap.size+1+1,0,none⟩)],Form.v fOd (zs[j]?.getD z),undef,undef,undef,undef,undef,undef,undef],defers:=[]})
  (fun j a' _ A B row hs hg hr=>by
   obtain⟨Bx,h0,h1,h2⟩:=hs;refine⟨Bx,h0,(hg.block Bx (aC.1 h1).1 (fun e=>?_)).trans h1,h2⟩;obtain⟨-,o,ho,hc⟩:=hr Bx e.symm;rw[h1] at ho;cases ho;cases hc)
  ?assign ?body ?done ?stop
 case assign=>
  rintro l pre j A K hI hK;have hIz:=hI.z
  revert hK
  generalize zs[j]?.getD z=p;obtain⟨⟨⟨zk,⟨z1,z2,z3⟩,zt,zn,zo,za⟩,dn⟩,ad,ca⟩:=p;have hv:Form.v fOd (⟨⟨zk,⟨z1,z2,z3⟩,zt,zn,zo,za⟩,dn⟩,ad,ca)= .agg #[.int .i64 zk,.int .i64 z1,.int .i64 z2,S z3,S zt,S zn,.int .i64 zo,.slice ad za.length ca,.bool dn]:=rfl;rw[hv];intro hK
  gi_wp2
  exact hK _ _ ((KeepsOthers.alloc _ _).from _) ((bS _ A).alloc hI.bl.size _) (hI.alloc _) ⟨A.heap.size,by omega,aN A _,rfl⟩
 case body=>
  rintro l pre j a' A hl ⟨r,hr⟩ hI ⟨Bx,hBx,hX,rfl⟩ hpl;have hmem:zs[j]?.getD z∈zs:=d6y (HZ.o (fun e=>by rw[e] at hpl;simp at hpl)) j;have HT:=aB hI;have HC:=aB (fun W' hb=>IH.o (zs[j]?.getD z) W' hmem hb);have HG:Hid ((fun j:Nat=>S (tx (zs[j]?.getD z).1)) j=S (tx (zs[j]?.getD z).1)):=rfl;generalize (fun j:Nat=>S (tx (zs[j]?.getD z).1))=gg at *;generalize zs[j]?.getD z=p at *;obtain⟨ty,hty⟩:∃ty,tx p.1=ty:=⟨_,rfl⟩
  rw[hty] at HG HC;clear hmem hty hr;obtain⟨⟨⟨zk,⟨z1,z2,z3⟩,zt,zn,zo,za⟩,dn⟩,ad,ca⟩:=p;have hv:Form.v fOd (⟨⟨zk,⟨z1,z2,z3⟩,zt,zn,zo,za⟩,dn⟩,ad,ca)= .agg #[.int .i64 zk,.int .i64 z1,.int .i64 z2,S z3,S zt,S zn,.int .i64 zo,.slice ad za.length ca,.bool dn]:=rfl;rw[hv] at HC⊢
  replace hX:A.heap[Bx]?=some (.cells #[.int .i64 zk,.int .i64 z1,.int .i64 z2,S z3,S zt,S zn,.int .i64 zo,.slice ad za.length ca,.bool dn] 80 (0,0)):=hX
  clear hv;obtain⟨v,h1,h2⟩:=hI.own;have H1:=aB h1;have H2:=aB h2;have hlow:=aB h2.lt;have HNE:Hid (v.ownBlock≠some Bx):=own_ne h2 hX ak;have hz:=hI.z;have hlz2:pre.length<=1000000:=(by have:=HFEW.o;omega);clear hI h2
  gi_wp2_with fail
  refine(d3p (fun B=>B.heap[W.heap.size]?=some (.cells #[.func (.func fn) #[] caps] 142 (0,0))/\B.heap[Bx]?=some (.cells #[.int .i64 zk,.int .i64 z1,.int .i64 z2,S z3,S zt,S zn,.int .i64 zo,.slice ad za.length ca,.bool dn] 80 (0,0))) ((.take 1 (.take 2 (.two 0 3 (.one 3 (.one 4 (.one 5 (.one 6 .done)))) (.two 0 4 (.one 4 (.one 5 (.one 6 .done))) (.one 0 (.one 5 (.one 6 .done)))))))) ab ab ab (fun c a d v w h=>by cases d<;>exact h) ab (fun a w h=>h) (eB ⟨HT.o.f,hX⟩ ((Bl.refl _).drew)) ?_);intro wd HWD hY;refine aI rfl ae du ?_;(try simp only[aK,aA,aD,aF])
  refine aI rfl ae (fun w hSw=>eD rfl rfl hSw.2 underlying80 rfl e5w) ?_;(try simp only[aK,aA,aD,aF])
  refine sZ ?_ ?_
  focus
   try have c0a:=((d2m H1.o (Bl.call HWD.o hb3)).alloc (.cells #[S ty] 9)).cell
   try have c0b:=(d2m H1.o (Bl.call HWD.o hb3)).cell
   have c0c:=(d2m H1.o HWD.o).cell;refine aL rfl (fun K hK=>?_);go_simp;refine hK.o _ _ (hY) ?_;clear hY hK K;intro hY;refine aL rfl (fun K hK=>?_);go_simp;(refine(HC.o _ (Bl.call HT.o.bl HWD.o)).mono ?_;rintro e w3 ⟨rfl,hb3⟩;have hb:=hb3);go_wp2_with fail;refine hK.o _ _ ((by first |exact eB hY hb|exact pV hY hb aE aE)) ?_;clear hY hK K;intro hY;clear hb;refine aL rfl (fun K hK=>?_);go_simp;refine hK.o _ _ ((eB hY ((Bl.refl _).alloc _))) ?_;clear hY hK K;intro hY;refine aL rfl (fun K hK=>?_);rw[if_pos ae];refine d2w (.tmp 9) (.tmp 13) rfl (W.heap.size+3) v pre.length (pre.map gg) rfl (gY ((HWD.o.call hb3).alloc _) H2.o) w3.heap.size ty rfl (aN w3 _) hlz2 aq ?_;intro v' w5 hown5 hg5 hat;refine hK.o _ _ (b8m hY hg5 (fun i e h=>by subst h;have:=(hlow.o _ e).1;omega) (fun i e h=>by subst h;exact HNE.o e)) (fun hY2=>?_);clear hY hK K;have hY:=hY2;clear hY2;have HM5:=aB ((hg5.block (W.heap.size+1) aq (fun e=>by have:=(hlow.o _ e.symm).1;omega)).trans ((aW _ _ bp).trans (((HWD.o.call hb3).block _ (Boxed.lt H1.o)).trans H1.o)));obtain⟨g5,cap5,rfl⟩:=nG hown5;refine aL rfl (fun K hK=>?_);rw[if_pos ae];refine bC rfl rfl rfl ([.slice (some ⟨g5,0,none⟩) (pre.length+1) cap5]) HM5.o rfl rfl d3g rfl ?_;intro w6 hB6 hX6;refine hK.o _ _ ((by first |exact eB hY hB6|exact pV hY hB6 aE aE)) ?_;clear hY hK K;intro hY;(try simp only[aK])
   refine fO ?_;exact d2y HT.o H1.o H2.o ((HWD.o.call hb3).alloc _) hown5 hg5 hB6 hX6 HG.o
  rotate_left 1
  focus
   refine aL rfl (fun K hK=>?_);go_simp;(refine(HC.o _ (Bl.call HT.o.bl HWD.o)).mono ?_;rintro e w3 ⟨rfl,hb3⟩;have hb:=hb3);go_wp2_with fail;refine hK.o _ _ ((by first |exact eB hY hb|exact pV hY hb aE aE)) ?_;clear hY hK K;intro hY;clear hb;refine sZ ?_ ?_
   focus
    try have c0a:=((d2m H1.o (Bl.call HWD.o hb3)).alloc (.cells #[S ty] 9)).cell
    try have c0b:=(d2m H1.o (Bl.call HWD.o hb3)).cell
    have c0c:=(d2m H1.o HWD.o).cell;refine aL rfl (fun K hK=>?_);go_simp;refine hK.o _ _ (hY) ?_;clear hY hK K;intro hY;refine aL rfl (fun K hK=>?_);go_simp;refine hK.o _ _ ((eB hY ((Bl.refl _).alloc _))) ?_;clear hY hK K;intro hY;refine aL rfl (fun K hK=>?_);rw[if_pos ae];refine d2w (.tmp 9) (.tmp 13) rfl (W.heap.size+3) v pre.length (pre.map gg) rfl (gY ((HWD.o.call hb3).alloc _) H2.o) w3.heap.size ty rfl (aN w3 _) hlz2 aq ?_;intro v' w5 hown5 hg5 hat;refine hK.o _ _ (b8m hY hg5 (fun i e h=>by subst h;have:=(hlow.o _ e).1;omega) (fun i e h=>by subst h;exact HNE.o e)) (fun hY2=>?_);clear hY hK K;have hY:=hY2;clear hY2;have HM5:=aB ((hg5.block (W.heap.size+1) aq (fun e=>by have:=(hlow.o _ e.symm).1;omega)).trans ((aW _ _ bp).trans (((HWD.o.call hb3).block _ (Boxed.lt H1.o)).trans H1.o)));obtain⟨g5,cap5,rfl⟩:=nG hown5;refine aL rfl (fun K hK=>?_);rw[if_pos ae];refine bC rfl rfl rfl ([.slice (some ⟨g5,0,none⟩) (pre.length+1) cap5]) HM5.o rfl rfl d3g rfl ?_;intro w6 hB6 hX6;refine hK.o _ _ ((by first |exact eB hY hB6|exact pV hY hB6 aE aE)) ?_;clear hY hK K;intro hY;(try simp only[aK])
    refine fO ?_;exact d2y HT.o H1.o H2.o ((HWD.o.call hb3).alloc _) hown5 hg5 hB6 hX6 HG.o
   rotate_left 1
   focus
    refine aL rfl (fun K hK=>?_);go_simp;refine hK.o _ _ ((eB hY ((Bl.refl _).alloc _))) ?_;clear hY hK K;intro hY
    try have c0a:=((d2m H1.o (Bl.call HWD.o hb3)).alloc (.cells #[S ty] 9)).cell
    try have c0b:=(d2m H1.o (Bl.call HWD.o hb3)).cell
    have c0c:=(d2m H1.o HWD.o).cell;refine aL rfl (fun K hK=>?_);go_simp;refine hK.o _ _ (hY) ?_;clear hY hK K;intro hY;refine aL rfl (fun K hK=>?_);rw[if_pos ae];refine d2w (.tmp 9) (.tmp 13) rfl (W.heap.size+3) v pre.length (pre.map gg) rfl (gY ((HWD.o.call hb3).alloc _) H2.o) w3.heap.size ty rfl (aN w3 _) hlz2 aq ?_;intro v' w5 hown5 hg5 hat;refine hK.o _ _ (b8m hY hg5 (fun i e h=>by subst h;have:=(hlow.o _ e).1;omega) (fun i e h=>by subst h;exact HNE.o e)) (fun hY2=>?_);clear hY hK K;have hY:=hY2;clear hY2;have HM5:=aB ((hg5.block (W.heap.size+1) aq (fun e=>by have:=(hlow.o _ e.symm).1;omega)).trans ((aW _ _ bp).trans (((HWD.o.call hb3).block _ (Boxed.lt H1.o)).trans H1.o)));obtain⟨g5,cap5,rfl⟩:=nG hown5;refine aL rfl (fun K hK=>?_);rw[if_pos ae];refine bC rfl rfl rfl ([.slice (some ⟨g5,0,none⟩) (pre.length+1) cap5]) HM5.o rfl rfl d3g rfl ?_;intro w6 hB6 hX6;refine hK.o _ _ ((by first |exact eB hY hB6|exact pV hY hB6 aE aE)) ?_;clear hY hK K;intro hY;(try simp only[aK])
    refine fO ?_;exact d2y HT.o H1.o H2.o ((HWD.o.call hb3).alloc _) hown5 hg5 hB6 hX6 HG.o
 case done=>
  rintro D ys A hD rfl hI hK;obtain⟨v,h1,h2⟩:=hI.own;rw[List.length_range] at h2;obtain⟨va,vc,rfl⟩:=d6c h2;have c0:=h1.cell;have z0:=aJ (show A.heap[W.heap.size+1]?=_ from h1) 0;have HH:=aB (bT h1 (bT h2 (bT hI.bl hK)));have hDz:W.heap.size+3<=D:=aE;have hne:W.heap.size+1<W.heap.size+3:=aE;clear hK h1 h2 hI
  gi_wp2
  exact d5k (R:=fun w v=>(l=[]/\∃a' d',v= .slice a' 0 d')\/sW w v (l.map tx)) rfl hDz rfl rfl HH.o HFIN.o
 case stop=>
  rintro D c pre A _ _ h _;exact h.elim
end
end Go.Proofs.YtfkekkgfmhcanaaGreatDoor
