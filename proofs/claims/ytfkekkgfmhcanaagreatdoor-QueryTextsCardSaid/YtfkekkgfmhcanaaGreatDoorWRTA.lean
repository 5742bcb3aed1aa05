/- Texts beside the shared ones. -/
import Derived.Test.YtfkekkgfmhcanaaGreatDoorTS
import Derived.Test.YtfkekkgfmhcanaaGreatDoorTA
import Derived.Test.YtfkekkgfmhcanaaGreatDoorTB
import Derived.Test.YtfkekkgfmhcanaaGreatDoorTC
import Derived.Test.YtfkekkgfmhcanaaGreatDoorTD
import Derived.Test.YtfkekkgfmhcanaaGreatDoorTE
import Derived.Test.YtfkekkgfmhcanaaGreatDoorTF
import Derived.Test.YtfkekkgfmhcanaaGreatDoorTG
import Derived.Test.YtfkekkgfmhcanaaGreatDoorTH
import Derived.Test.YtfkekkgfmhcanaaGreatDoorTI
import Derived.Test.YtfkekkgfmhcanaaGreatDoorTJ
import Derived.Test.YtfkekkgfmhcanaaGreatDoorWRP
import Derived.Test.YtfkekkgfmhcanaaGreatDoorWRG
import Derived.Test.YtfkekkgfmhcanaaGreatDoorWRR
import Derived.Test.YtfkekkgfmhcanaaGreatDoorWZS
import Derived.Test.YtfkekkgfmhcanaaGreatDoorWZD
import Derived.Deep.CutRange
import Derived.Deep.CutBlock
namespace Go.Proofs.YtfkekkgfmhcanaaGreatDoor
open Go.RowKit
open _root_.Go.Act renaming put->aK
open _root_.Go.Ending renaming returned->bQ
open _root_.Go.Lib renaming hid->aB
open _root_.List renaming append_assoc->iK,drop_eq_getElem_cons->aZ,drop_length->dO,getElem_mem->dS,length->lV,length_append->bD,length_cons->aX,length_nil->bL,map_cons->kP,setIfInBounds_toArray->aA,set_cons_succ->aF,set_cons_zero->aD
open _root_.Nat renaming le_refl->aH,zero_le->dL
open NoPanic renaming normal->bF
set_option maxRecDepth 100000
set_option maxHeartbeats 8000000
section
def restL(w:List UInt8):Nat->List (List UInt8)->List UInt8
 |_,[]=>[]
 |i,t::r=>(if 0<i then[44,32] else w)++(t++restL w (i+1) r)
theorem rest_flat(w:List UInt8):∀(l:List (List UInt8)) (i:Nat),restL w (i+1) l=l.flatMap fun t=>[44,32]++t
 |[],_=>rfl
 |t::r,i=>by
  simp only[restL,rest_flat w r,List.flatMap_cons];rw[if_pos (by omega),iK]
theorem rest_join(w:List UInt8)(l:List (List UInt8)):restL w 0 l=if l=[] then[] else w++jR [44,32] l:=by
 cases l with
 |nil=>rfl
 |cons x r=>
  rw[if_neg (by simp),d6l];show(if 0<0 then[44,32] else w)++(x++restL w 1 r)=_;rw[rest_flat,if_neg (by omega)]
theorem rest_drop{α:Type}{w:List UInt8}{f:α->List UInt8}{l:List α}{j:Nat}(h:j<l.length):restL w j ((l.drop j).map f)=(if 0<j then[44,32] else w)++(f l[j]++restL w (j+1) ((l.drop (j+1)).map f)):=by
 rw[aZ h,kP];rfl
theorem str_of{x:ByteArray}{l:List UInt8}(h:x=⟨l.toArray⟩):Value.string x=S l:=congrArg Value.string h
theorem x_text{x:Ex}(hp:e0m x)(hC:eH x=true)(W:World)(v:Value)(hv:eO W x v):Calls Tryz.prog 77 #[v] W fun e w'=>e= .returned (S (eY x))/\Bl W w':=c8n _ x (aH _) hp.parts hC hp.fits (hp.text hC) W v hv
theorem ynamed_any(s al:List UInt8)(hlen:(d4t s al).length<=100000000)(W:World):Calls Tryz.prog 76 #[S s,S al] W fun e w'=>e= .returned (S (d4t s al))/\w'=W:=by
 by_cases h:al=[]
 ·subst h;rw[show d4t s []=s from if_pos rfl];clear hlen;go_enter Tryz.func76,Tryz.ntmps76;go_wp2;go_ret;exact⟨rfl,rfl⟩
 ·have HT:=aB (show d4t s al=s++[32,97,115,32]++al from by unfold d4t wAs;rw[if_neg h];simp);rw[HT.o] at hlen⊢;have hl:s.length+4+al.length<=100000000:=(by have:=hlen;simp only[bD,aX,bL] at this;omega);have hb:(al==[])=false:=(by simpa using h);clear hlen;go_enter Tryz.func76,Tryz.ntmps76;go_wp2;go_ret;exact⟨congrArg bQ (str_of (by rw[c4c,c4c])),rfl⟩
theorem yfirst_any(i:Nat)(s:List UInt8)(W:World):Calls Tryz.prog 90 #[.int .i64 (i:Int),S s] W fun e w'=>e= .returned (S (if 0<i then[44,32] else s))/\w'=W:=by
 by_cases h:0<i
 ·have h':(0:Int)<(i:Int):=by omega
  rw[if_pos h];clear h;go_enter Tryz.func90,Tryz.ntmps90;go_wp2;go_ret;exact⟨rfl,rfl⟩
 ·have h':¬(0:Int)<(i:Int):=by omega
  rw[if_neg h];clear h;go_enter Tryz.func90,Tryz.ntmps90;go_wp2;go_ret;exact⟨rfl,rfl⟩
theorem S_app'(a b:List UInt8):(Value.string (⟨a.toArray⟩++⟨b.toArray⟩):Value)=S (a++b):=congrArg Value.string (c4c a b)
theorem yItemsText_any{l:List It}(hlen:l.length<=1000000)(hi:∀i∈l,e7f i/\d3r i=true)(hT:(d5q l).length<=100000000){p:Nat->Prop}{W:World}{v:Value}(hR:d2p fIt p W v l):Calls Tryz.prog 28 #[v] W fun e w'=>e= .returned (S (d5q l))/\Bl W w':=by
 obtain⟨a,cap,rfl,hc⟩:=hR.shape;have HC:=aB hc;have HI:=aB hi;obtain⟨T,HTT⟩:∃T,Hid (d5q l=T):=⟨_,rfl⟩
 rw[HTT.o] at hT⊢
 replace HTT:=aB (show restL [] 0 (l.map d5x)=T from by rw[<-HTT.o,rest_join];unfold d5q;cases l<;>simp[jR])
 clear hR hc hi;go_enter Tryz.func28,Tryz.ntmps28;go_wp2_with fail;go_loopw [3,4] (fun sv i wr=>∃(j:Nat) (s0:List UInt8) (v0:Value),sv=v0/\j<=l.length/\i= .int .i64 (j:Int)/\v0=S s0/\Hid (s0++restL [] j ((l.drop j).map d5x)=T)/\Hid (Bl W wr)) (fun _ i _=>l.length-(intOf i).toNat)
 case atStart=>exact⟨0,[],_,rfl,dL _,rfl,rfl,HTT.o,Bl.refl W⟩
 case round=>
  obtain⟨j,s0,v0,rfl,hj,rfl,rfl,HS,HB⟩:=hrel;by_cases hlt:j<l.length
  ·as_aux_lemma=>
   obtain⟨b,off,s,rfl,-,hbl,hcs,hr⟩:=HC.o j hlt;obtain⟨hok,hri⟩:=HI.o _ (dS hlt);have HS1:=aB (show s0++((if 0<j then[44,32] else[])++(d5x l[j]++restL [] (j+1) ((l.drop (j+1)).map d5x)))=T from by rw[<-rest_drop hlt];exact HS.o);have HR:=aB (hr.bl HB.o)
   replace hcs:=hcs.keep (HB.o.block b hbl)
   have hlt':(j:Int)<(l.length:Int):=(by omega);obtain⟨asl,cs,rfl⟩:=hr.shape;have HOK:=aB hok;have HRI:=aB hri;clear hr HS hok hri;generalize l[j]=y at *;obtain⟨st,tt,⟨yk,⟨y1,y2,y3⟩,yt,yn,yo,ya⟩,al⟩:=y;have HCS:=aB (show d2k wr b (off+j * 11) [.bool st,S tt,.int .i64 yk,.int .i64 y1,.int .i64 y2,S y3,S yt,S yn,.int .i64 yo,.slice asl ya.length cs,S al] from hcs);clear hcs;obtain⟨rest,HREST⟩:∃rest,Hid (rest=restL [] (j+1) ((l.drop (j+1)).map d5x)):=⟨_,rfl⟩
   rw[<-HREST.o] at HS1;have hbd:s0.length+(2+rest.length)<=100000002:=by have:=congrArg lV HS1.o;simp only[bD] at this;omega
   go_upto_if 12 with fail
   go_cut [3] from 5 to 58 (fun sv wc=>∃s1:List UInt8,sv=S s1/\Hid (s1++(d5x ⟨st,tt,(.mk yk (y1,y2,y3) yt yn yo ya),al⟩++rest)=T)/\wc=wr)
   case first=>
    by_cases h0:0<j
    ·have h0':(0:Int)<(j:Int):=by omega
     rw[if_pos h0] at HS1;have hl:s0.length+2<=100000000:=(by have:=congrArg lV HS1.o;simp only[bD,aX,bL] at this;omega);go_wp2
     go_meet
     case rel=>exact⟨s0++[44,32],S_app' _ _,aB (by rw[<-HS1.o];simp),rfl⟩
    ·have h0':¬(0:Int)<(j:Int):=by omega
     rw[if_neg h0] at HS1;go_wp2
     go_meet
     case rel=>exact⟨s0,rfl,HS1.o,rfl⟩
   case rest=>
   clear HS1 hbd;obtain⟨s1,rfl,HS1,rfl⟩:=hcut;have e0:=d2k.cell0 (HCS.o) rfl;have e1:=HCS.o 1 _ rfl;have e2:=HCS.o 2 _ rfl;have e3:=HCS.o 3 _ rfl;have e4:=HCS.o 4 _ rfl;have e5:=HCS.o 5 _ rfl;have e6:=HCS.o 6 _ rfl;have e7:=HCS.o 7 _ rfl;have e8:=HCS.o 8 _ rfl;have e9:=HCS.o 9 _ rfl;have e10:=HCS.o 10 _ rfl;cases st
   ·have hri:=HRI.o;have HXT:=aB (fun(w:World) (hb:Bl wc w)=>x_text HOK.o.x (by simp[d3r] at hri;exact hri.1.2) w _ ⟨_,rfl,HR.o.reads.bl hb⟩);have HL:=aB (show s1++(d4t (eY (.mk yk (y1,y2,y3) yt yn yo ya)) al++rest)=T from HS1.o);have hl:s1.length+(d4t (eY (.mk yk (y1,y2,y3) yt yn yo ya)) al).length<=100000000:=(by have:=congrArg lV HL.o;simp only[bD] at this;omega);have HNM:=aB (fun(w:World)=>ynamed_any (eY (.mk yk (y1,y2,y3) yt yn yo ya)) al (by omega) w);clear hri HRI HS1;generalize d4t (eY (.mk yk (y1,y2,y3) yt yn yo ya)) al=nt at *;generalize eY (.mk yk (y1,y2,y3) yt yn yo ya)=xt at *;have hn1:¬9223372036854775807<s1.length+nt.length:=(by omega);go_wp2_with fail;clear e0 e1 e2 e3 e4 e5 e6 e7 e8 e9 e10;refine wp_region_noPanic (bM (fun B=>d2k B b (off+j * 11) [.bool false,S tt,.int .i64 yk,.int .i64 y1,.int .i64 y2,S y3,S yt,S yn,.int .i64 yo,.slice asl ya.length cs,S al]) ((.take 0 (.take 1 (.take 2 (.take 3 (.take 4 (.take 5 (.take 7 (.take 8 (.take 9 (.take 10 (.take 11 (.one 6 (.one 12 (.take 13 (.take 14 .done)))))))))))))))) (by kernel_rfl) (by kernel_rfl) (by kernel_rfl) (fun _ _ _ _ _ h=>h) (HCS.o.keep (((Bl.refl _).drew).block b (by have:=HB.o.size;omega))) ?_);intro wd HWD hY;iterate 11 (refine aI rfl (by rfl) (by intro w hSw;(try dsimp only at hSw);have e0:=d2k.cell0 (hSw) rfl;have e1:=hSw 1 _ rfl;have e2:=hSw 2 _ rfl;have e3:=hSw 3 _ rfl;have e4:=hSw 4 _ rfl;have e5:=hSw 5 _ rfl;have e6:=hSw 6 _ rfl;have e7:=hSw 7 _ rfl;have e8:=hSw 8 _ rfl;have e9:=hSw 9 _ rfl;have e10:=hSw 10 _ rfl;go_simp;(try(first |with_reducible rfl|rfl))) ?_;(try simp only[aK,aA,aD,aF]))
    refine aL rfl (fun K hK=>?_);go_simp;(refine(HXT.o _ HWD.o).mono ?_;rintro e w3 ⟨rfl,hb3⟩;have hb:=hb3);go_wp2_with fail;refine hK.o _ _ ((by first |exact hY|exact hY.keep (hb.block b (hY.lt (Nat.succ_pos _))))) ?_;clear hY hK K;intro hY;clear hb;refine aL rfl (fun K hK=>?_);go_simp;(refine(HNM.o _).mono ?_;rintro e w' ⟨rfl,rfl⟩);go_wp2_with fail;refine hK.o _ _ ((by first |exact hY|exact hY.keep (hb.block b (hY.lt (Nat.succ_pos _))))) ?_;clear hY hK K;intro hY;iterate 2 (refine aI rfl (by rfl) (by intro w hSw;(try dsimp only at hSw);have e0:=d2k.cell0 (hSw) rfl;have e1:=hSw 1 _ rfl;have e2:=hSw 2 _ rfl;have e3:=hSw 3 _ rfl;have e4:=hSw 4 _ rfl;have e5:=hSw 5 _ rfl;have e6:=hSw 6 _ rfl;have e7:=hSw 7 _ rfl;have e8:=hSw 8 _ rfl;have e9:=hSw 9 _ rfl;have e10:=hSw 10 _ rfl;go_simp;(try(first |with_reducible rfl|rfl))) ?_;(try simp only[aK,aA,aD,aF]))
    refine fO (bF ?_);have HBE:=aB ((HB.o.call HWD.o).call hb3);have HS1:=HL;clear hY;go_wp2;go_roundw
    case rel=>exact⟨j+1,s1++nt,_,rfl,by omega,by go_num,S_app' _ _,aB (by rw[<-HREST.o,<-HS1.o];simp),HBE.o⟩
    case measure=>simp[intOf];omega
   ·by_cases ht:tt=[]
    ·subst ht;have HS1:=aB (show s1++([42]++rest)=T from HS1.o);have hl:s1.length+1<=100000000:=(by have:=congrArg lV HS1.o;simp only[bD,aX,bL] at this;omega);have HBE:=HB;have hY:=trivial;clear hY;go_wp2;go_roundw
     case rel=>exact⟨j+1,s1++[42],_,rfl,by omega,by go_num,by show _=_;first |rfl|(rw[<-S_app'])|(rw[<-S_app',<-c4c])|simp,aB (by rw[<-HREST.o,<-HS1.o];simp),HBE.o⟩
     case measure=>simp[intOf];omega
    ·have HS1:=aB (show s1++((tt++[46,42])++rest)=T from by rw[<-HS1.o];simp[d5x,ht]);have hl:s1.length+tt.length+2<=100000000:=(by have:=congrArg lV HS1.o;simp only[bD,aX,bL] at this;omega);have hb:(tt==[])=false:=(by simpa using ht);have HBE:=HB;have hY:=trivial;clear hY;go_wp2;go_roundw
     case rel=>exact⟨j+1,s1++tt++[46,42],_,rfl,by omega,by go_num,by show _=_;first |rfl|(rw[<-S_app'])|(rw[<-S_app',<-c4c])|simp,aB (by rw[<-HREST.o,<-HS1.o];simp),HBE.o⟩
     case measure=>simp[intOf];omega
  ·obtain rfl:j=l.length:=by omega
   have HN:=aB (show s0=T from by rw[<-HS.o,dO];simp[restL]);go_wp2;go_ret;exact⟨by rw[HN.o]<;>rfl,HB.o⟩
end
end Go.Proofs.YtfkekkgfmhcanaaGreatDoor
