/- Texts MT MW LT MR PL. -/
import Derived.Test.YtohlomdapelgeaaGreatDoorCA
import Derived.Lib.IndexLaws
import Derived.Shelf.SlicesE.IndexFunc
import Derived.Deep.WholeRow
import Derived.BigRegion
import Derived.RegionTactic
import Derived.Laws.StructEq
import Derived.Lib.ItoaMem
import Derived.Lib.ItoaLen
namespace Go.Proofs.YtohlomdapelgeaaGreatDoor
open _root_.Go.Proofs.Tryz
open Go.RowKit
open Go.RowKit Go.Shelf
open _root_.Go.Addr renaming add->dY
open _root_.Array renaming ext'->nU,getElem?_eq_some_iff->aC,getElem?_modify->dC,replicate->kD
open _root_.Go.RowKit.Below renaming grown->iL,heap_setCell->fA
open _root_.Bool renaming and_eq_true->aQ,eq_iff_iff->kC
open _root_.Go.Ending renaming panicked->lK,returned->bQ
open _root_.Go.Lib renaming below_iterAt->oV,cell_of_heap->aG,frozen_of_heap->aJ,hasPrefix->aS,hid->aB,idxByFrom->pJ,indexByte->dR,iterAt_heap->qJ,run_next_any_at->mJ,run_next_end_at->mI
open _root_.List renaming drop_drop->iI,drop_eq_getElem_cons->aZ,drop_length->dO,drop_succ_cons->gB,getD_eq_getElem?_getD->lY,getElem?_eq_getElem->aP,getElem?_eq_some_iff->aO,getElem?_take->rA,getElem_append_left->mQ,getElem_mem->dS,head?_drop->fQ,head?_eq_getElem?->nJ,isPrefixOf->iA,length_singleton->dB,mem_cons->dD,mem_iff_getElem?->oK,mem_nil_iff->fV,mem_of_getElem?->dJ,take_add_one->dN,take_append_drop->gF,take_of_length_le->jS
open _root_.Nat renaming add_comm->oJ,le_refl->aH,zero_add->gD,zero_le->dL
open _root_.Option renaming bind_some->bU
open _root_.Go.World renaming cell?_of_block->jV,iter_heap->qG,setCell->dX,setRow_alloc_new->lD,size_alloc->aR
set_option maxRecDepth 100000
set_option maxHeartbeats 4000000
section
theorem rG(n:Int)(w:World):
  eg 128 #[.bool true,.int .i64 n] w fun e w'=>e= .returned (.tuple #[])/\w=w':=by
 go_enter func128,ntmps128;go_wp2;go_end0;exact⟨rfl,rfl⟩
theorem zA(n:Int)(w:World):
  eg 128 #[.bool false,.int .i64 n] w fun e w'=>e= .panicked [{v:= .iface 47 (.int .i64 n),recovered:=false}]/\w=w':=by
 go_enter func128,ntmps128;go_wp2;exact⟨rfl,rfl,rfl⟩
theorem decode_ascii(l:List UInt8)(i:Nat)(hb:(l.getD i 0).toNat<128):Utf8.decode ⟨l.toArray⟩ i=((l.getD i 0).toNat,1):=by
 unfold Utf8.decode;simp only[a3t];simp only[Nat.add_zero];rw[if_pos hb]
theorem decode_high(c:UInt8)(h:128<=c.toNat):Utf8.decode ⟨[c].toArray⟩ 0=(65533,1):=by
 have hsz:(⟨[c].toArray⟩:ByteArray).size=1:=rfl;unfold Utf8.decode;simp only[a3t,hsz];have e:([c]:List UInt8).getD (0+0) 0=c:=rfl;rw[e,if_neg aE];split
 ·rename_i c1;simp at c1
 split
 ·rename_i c1;simp at c1
 split
 ·rename_i c1;simp at c1
 ·rfl
theorem a1n(cs:List UInt8)(_hl:cs.length<=1000)(hascii:∀b∈cs,b.toNat<128)(w:World):eg 311 #[S cs,.int .i32 65533] w fun e w'=>e= .returned (.int .i64 (-1))/\Bl w w':=by
 have HA:=aB hascii;clear hascii;go_enter func311,ntmps311;go_wp2_with fail;go_loopw [] (fun wr=>∃(pos:Nat),pos<=cs.length/\wr.heap[w.heap.size]?=some (.stringIter ⟨cs.toArray⟩ pos)/\Bl w wr) (fun wr=>cs.length-wr.iterPos w.heap.size)
 case atStart=>exact⟨0,dL _,qG _ _ _,(Bl.refl w).alloc _⟩
 case round=>
  obtain⟨pos,hpos,hit,hB⟩:=hrel;by_cases hlt:pos<cs.length
  ·have hnx:=mJ (P:=prog) wr w.heap.size ⟨cs.toArray⟩ pos 0 hit eI;have hgd:cs.getD pos 0=cs[pos]:=(by simp[hlt]);have h128:(cs.getD pos 0).toNat<128:=(by rw[hgd];exact HA.o _ (dS hlt));rw[decode_ascii cs pos h128] at hnx;have hit':=qJ wr w.heap.size ⟨cs.toArray⟩ pos (pos+1) hit;have hB':Bl w _:=oV hB (k:=w.heap.size) (aH _) ⟨cs.toArray⟩ (pos+1);generalize wr.iterAt w.heap.size ⟨cs.toArray⟩ (pos+1)=wn at *;generalize (cs.getD pos 0).toNat=d at *;have hne:((d:Int)==65533)=false:=ak;have HIT:=aB hit;clear hit hB hgd;go_wp2;go_roundw
   case rel=>exact⟨pos+1,by omega,hit',hB'⟩
   case measure=>
    simp only[World.iterPos,hit',HIT.o];omega
  ·obtain rfl:pos=cs.length:=by omega
   have hnx:=mI (P:=prog) wr w.heap.size ⟨cs.toArray⟩ cs.length 0 hit bu;clear hit;go_wp2;go_ret;exact⟨rfl,hB⟩
theorem a4o(w:World):eg 312 #[.int .i64 1] w fun e w'=>e= .returned (.bool false)/\w=w':=by
 go_enter func312,ntmps312;go_wp2;go_ret;exact⟨rfl,rfl⟩
theorem a4g(c:UInt8)(hc:128<=c.toNat)(cs:List UInt8)(h2:2<=cs.length)(hl:cs.length<=1000)(hascii:∀b∈cs,b.toNat<128)(w:World):eg 279 #[S [c],S cs] w fun e w'=>e= .returned (.int .i64 (-1))/\Bl w w':=by
 have HA:=aB hascii;clear hascii;have hne:(cs==[])=false:=by cases cs with
  |nil=>simp at h2
  |cons a r=>rfl
 have hne1:((cs.length:Int)==1)=false:=ak;have hne0:cs.isEmpty=false:=by cases cs with
  |nil=>simp at h2
  |cons a r=>rfl
 go_enter func279,ntmps279;go_wp2_with fail;refine(a4o _).mono ?_;rintro e w' ⟨rfl,rfl⟩;go_wp2_with fail;go_loopw [] (fun wr=>∃(pos:Nat),pos<=1/\wr.heap[w.heap.size]?=some (.stringIter ⟨[c].toArray⟩ pos)/\Bl w wr) (fun wr=>1-wr.iterPos w.heap.size)
 case atStart=>exact⟨0,dL _,qG _ _ _,(Bl.refl w).alloc _⟩
 case round=>
  obtain⟨pos,hpos,hit,hB⟩:=hrel;by_cases hlt:pos=0
  ·subst hlt;have hnx:=mJ (P:=prog) wr w.heap.size ⟨[c].toArray⟩ 0 0 hit (by rw[size_of_list];simp);rw[decode_high c hc] at hnx;have hit':=qJ wr w.heap.size ⟨[c].toArray⟩ 0 (0+1) hit;have hB':Bl w _:=oV hB (k:=w.heap.size) (aH _) ⟨[c].toArray⟩ (0+1);simp only[gD] at hnx hit' hB';generalize wr.iterAt w.heap.size ⟨[c].toArray⟩ 1=wn at *;have HIT:=aB hit;clear hit hB;go_wp2_with fail;refine(a1n cs hl HA.o _).mono ?_;rintro e w3 ⟨rfl,hb3⟩;have hwn:w.heap.size<wn.heap.size:=(aC.1 hit').1;have hit3:=(hb3.block _ hwn).trans hit';go_wp2;go_roundw
   case rel=>exact⟨1,by omega,hit3,hB'.call hb3⟩
   case measure=>
    simp only[World.iterPos,hit3,HIT.o];omega
  ·obtain rfl:pos=1:=by omega
   have hnx:=mI (P:=prog) wr w.heap.size ⟨[c].toArray⟩ 1 0 hit (by rw[size_of_list];simp);clear hit;go_wp2;go_ret;exact⟨rfl,hB⟩
theorem indexAny_one(c:UInt8)(cs:List UInt8):Lib.indexAny [c] cs=if cs.contains c then 0 else -1:=by
 simp[Lib.indexAny]
theorem a0y(c:UInt8)(cs:List UInt8)(h2:2<=cs.length)(hl:cs.length<=1000)(hascii:∀b∈cs,b.toNat<128)(w:World):eg 231 #[S [c],S cs] w fun e w'=>e= .returned (.bool (cs.contains c))/\Bl w w':=by
 by_cases hc:c.toNat<128
 ·have HR:=aB (indexAny_one c cs);have HA:Hid (∀(j:Nat) b,(⟨[c].toArray⟩:ByteArray).data.toList[j]?=some b->b.toNat<128):=by
   intro j b hb;have:b∈[c]:=dJ hb;simp at this;subst this;exact hc
  have H2:Hid (2<=(⟨cs.toArray⟩:ByteArray).size):=(by rw[size_of_list];exact h2);clear hascii;go_enter func231,ntmps231;go_wp2_with fail;refine(Tryz.strings_IndexAny_short ⟨[c].toArray⟩ ⟨cs.toArray⟩ _ H2.o (by rw[size_of_list];simp) HA.o).mono ?_;rintro e w' ⟨rfl,pos,rfl⟩;rw[show Lib.indexAny (⟨[c].toArray⟩:ByteArray).data.toList (⟨cs.toArray⟩:ByteArray).data.toList=if cs.contains c then 0 else -1 from HR.o];cases hb:cs.contains c
  ·have HB:=aB hb;clear hb;rw[if_neg aa];go_wp2;go_ret;exact⟨nX HB.o.symm,(Bl.refl w).alloc _⟩
  ·have HB:=aB hb;clear hb;rw[if_pos rfl];go_wp2;go_ret;exact⟨nX HB.o.symm,(Bl.refl w).alloc _⟩
 ·have hno:cs.contains c=false:=by
   cases hb:cs.contains c with
   |false=>rfl
   |true=>exact absurd (hascii c (by simpa using hb)) hc
  have HN:=aB hno;have HA:=aB hascii;clear hno hascii;go_enter func231,ntmps231;go_wp2_with fail;refine(a4g c aE cs h2 hl HA.o _).mono ?_;rintro e w' ⟨rfl,hb⟩;go_wp2;go_ret;exact⟨nX HN.o.symm,hb⟩
structure b7u(p:UInt8->Bool)(cs:List UInt8):Prop where
 two:2<=cs.length
 few:cs.length<=1000
 ascii:∀b∈cs,b.toNat<128
 is:∀c,cs.contains c=p c
theorem qE{q:UInt8->Bool}(h:∀n:Fin 256,q (UInt8.ofNat n.val)=true)(c:UInt8):q c=true:=by
 have:=h ⟨c.toNat,c.toNat_lt⟩;simpa using this
theorem b4y:b7u iR [32,9,10,13]:=⟨by decide,by decide,by decide,fun c=>by
 have:=qE (q:=fun c=>([32,9,10,13]:List UInt8).contains c==iR c) (by decide+kernel) c;simpa using this⟩
theorem b4x:b7u dI [48,49,50,51,52,53,54,55,56,57]:=⟨by decide,by decide,by decide,fun c=>by
 have:=qE (q:=fun c=>([48,49,50,51,52,53,54,55,56,57]:List UInt8).contains c==dI c) (by decide+kernel) c;exact eq_of_beq this⟩
theorem a1v:b7u cZ [97,98,99,100,101,102,103,104,105,106,107,108,109,110,111,112,113,114,115,116,117,118,119,120,121,122,95]:=⟨by decide,by decide,by decide,fun c=>by
 have:=qE (q:=fun c=>([97,98,99,100,101,102,103,104,105,106,107,108,109,110,111,112,113,114,115,116,117,118,119,120,121,122,95]:List UInt8).contains c==cZ c) (by decide+kernel) c;exact eq_of_beq this⟩
theorem b9e:b7u jP [97,98,99,100,101,102,103,104,105,106,107,108,109,110,111,112,113,114,115,116,117,118,119,120,121,122,95,48,49,50,51,52,53,54,55,56,57]:=⟨by decide,by decide,by decide,fun c=>by
 have:=qE (q:=fun c=>([97,98,99,100,101,102,103,104,105,106,107,108,109,110,111,112,113,114,115,116,117,118,119,120,121,122,95,48,49,50,51,52,53,54,55,56,57]:List UInt8).contains c==jP c) (by decide+kernel) c;exact eq_of_beq this⟩
theorem a8g(l:List UInt8)(i:Nat)(h:i<l.length):(⟨l.toArray⟩:ByteArray).extract i (i+1)=⟨[l[i]].toArray⟩:=by
 apply ByteArray.ext;apply nU;simp[List.take_one,fQ,h]
theorem wU(l:List UInt8)(i:Nat):(⟨l.toArray⟩:ByteArray).extract i l.length=⟨(l.drop i).toArray⟩:=by
 apply ByteArray.ext;apply nU;simp;rw[jS aa]
theorem b0o(l:List UInt8)(n:Nat):(⟨l.toArray⟩:ByteArray).extract 0 n=⟨(l.take n).toArray⟩:=by
 apply ByteArray.ext;apply nU;simp
theorem a7o{p:UInt8->Bool}{l:List UInt8}{i:Nat}(h:∀c∈l.take i,p c=true)(hs:Stops p (l.drop i))(hi:i<=l.length):jJ p l=i:=by
 have:=a0a h hs;rw[gF] at this;rw[this];simp;omega
theorem wI{p:UInt8->Bool}{cs:List UInt8}(hS:b7u p cs)(l:List UInt8)(hl:l.length<=1000000)(w:World):eg 183 #[S l,S cs] w fun e w'=>e= .returned (.int .i64 (jJ p l))/\Bl w w':=by
 have HSet:=aB hS;clear hS;go_enter func183,ntmps183;go_wp2_with fail;go_loopw [] (fun wr=>∃(pos:Nat),pos<=l.length/\wr.heap[w.heap.size]?=some (.stringIter ⟨l.toArray⟩ pos)/\Bl w wr/\Hid (∀c∈l.take pos,p c=true)) (fun wr=>l.length-wr.iterPos w.heap.size)
 case atStart=>exact⟨0,dL _,qG _ _ _,(Bl.refl w).alloc _,fun c hc=>by simp at hc⟩
 case round=>
  obtain⟨pos,hpos,hit,hB,HT⟩:=hrel;by_cases hlt:pos<l.length
  ·have hnx:=mJ (P:=prog) wr w.heap.size ⟨l.toArray⟩ pos 0 hit eI;have hit':=qJ wr w.heap.size ⟨l.toArray⟩ pos (pos+(Utf8.decode ⟨l.toArray⟩ pos).2) hit;have hB':Bl w _:=oV hB (k:=w.heap.size) (aH _) ⟨l.toArray⟩ (pos+(Utf8.decode ⟨l.toArray⟩ pos).2);have HD:Hid ((l.getD pos 0).toNat<128->Utf8.decode ⟨l.toArray⟩ pos=((l.getD pos 0).toNat,1)):=decode_ascii l pos;have hcut:=a8g l pos hlt;have HC:Hid (l.getD pos 0=l[pos]):=(by show l.getD pos 0=l[pos];simp[hlt]);have HCM:Hid (l[pos]?=some l[pos]):=aP hlt;generalize hdd:Utf8.decode ⟨l.toArray⟩ pos=dd at *;obtain⟨d1,d2⟩:=dd;simp only at hnx hit' hB';generalize wr.iterAt w.heap.size ⟨l.toArray⟩ (pos+d2)=wn at *;generalize l[pos]=c at *;have HIT:=aB hit;clear hit hB hdd;have hwn:w.heap.size<wn.heap.size:=(aC.1 hit').1;obtain⟨C,fz,cap,hCc,hcv⟩:=b0v [c] wn;have hcb:=run_convert_bytes_back (P:=prog) (wn.alloc (.cells C 5 fz)).drew 181 9 5 ⟨wn.heap.size,0,none⟩ cap [c] underlying181 underlying5 underlying9 (by
    intro j hj;have:=hCc j hj;rw[show((wn.alloc (.cells C 5 fz)).drew).cell? ((⟨wn.heap.size,0,none⟩:Addr).add j)=C[j]? by
     show(wn.alloc (.cells C 5 fz)).cell? _=_;rw[show(⟨wn.heap.size,0,none⟩:Addr).add j=⟨wn.heap.size,j,none⟩ by simp[dY];omega];rw[aG (aN wn _)],this]
    simp[aP hj])
   have hBd:Bl wn ((wn.alloc (.cells C 5 fz)).drew):=((Bl.refl wn).alloc _).drew;have HBd:=aB hBd;clear hCc hBd;simp only[dB] at hcv hcb;go_wp2_with fail;refine(a0y c cs HSet.o.two HSet.o.few HSet.o.ascii _).mono ?_;rintro e w3 ⟨rfl,hb3⟩;have hb4:Bl wn w3:=HBd.o.call hb3;have hit3:=(hb4.block _ hwn).trans hit';rw[HSet.o.is c];clear hcv hcb hcut hb3 hnx;cases hp:p c
   ·have HP:=aB hp;clear hp;go_wp2;go_ret;refine⟨lI (congrArg _ (a7o HT.o ?_ aE).symm),hB'.call hb4⟩;intro a ha;rw[fQ,HCM.o] at ha;injection ha with ha;rw[<-ha];exact HP.o
   ·have HP:=aB hp;have h128:c.toNat<128:=HSet.o.ascii c (by have:=HSet.o.is c;rw[hp] at this;simpa using this);clear hp;have hdec:=HD.o (by rw[HC.o];exact h128);rw[HC.o] at hdec;injection hdec with e1 e2;subst e1 e2;have hgt:¬(127<(c.toNat:Int)):=aE;go_wp2;go_roundw
    case rel=>
     refine⟨pos+1,by omega,hit3,hB'.call hb4,fun a ha=>?_⟩;rw[dN,HCM.o] at ha;simp at ha;rcases ha with ha|rfl
     ·exact HT.o a ha
     ·exact HP.o
    case measure=>
     simp only[World.iterPos,hit3,HIT.o];omega
  ·obtain rfl:pos=l.length:=by omega
   have hnx:=mI (P:=prog) wr w.heap.size ⟨l.toArray⟩ l.length 0 hit bu;clear hit;go_wp2;go_ret;exact⟨lI (congrArg _ (a7o HT.o (by intro a ha;simp at ha) (aH _)).symm),hB⟩
end
section
theorem nQ(a b:List UInt8)(w:World):eg 184 #[S a,S b] w fun e w'=>e= .returned (.bool (aS a b))/\w=w':=
 (Tryz.strings_HasPrefix ⟨a.toArray⟩ ⟨b.toArray⟩ w).mono fun _ _ ⟨he,hw⟩=>⟨he,hw.symm⟩
theorem c0u(a:List UInt8)(c:UInt8)(w:World):eg 185 #[S a,S [c]] w fun e w'=>e= .returned (.int .i64 (dR a c))/\w=w':=
 (Tryz.strings_Index_one ⟨a.toArray⟩ c w).mono fun _ _ ⟨he,hw⟩=>⟨he,hw.symm⟩
theorem sP(l:List UInt8)(c:UInt8):aS l [c]=(l.head?==some c):=by
 cases l with
 |nil=>rfl
 |cons d l=>simp[aS,iA];exact Bool.beq_comm
theorem mX(l:List UInt8)(c d:UInt8):aS l [c,d]=(l.head?==some c&&l[1]?==some d):=by
 match l with
 |[]=>rfl
 |[e]=>simp[aS,iA]
 |e::f::l=>simp[aS,iA];rw[Bool.beq_comm (a:=c),Bool.beq_comm (a:=d)]
def vR(l:List UInt8)(n:Nat):Ending:=match oO (l.drop n) with
 |some k=> .returned (.int .i64 ((n+k:Nat):Int))
 |none=> .panicked [{v:= .iface 47 (.int .i64 250),recovered:=false}]
def QAt(l:List UInt8)(n i:Nat):Prop:=n<=i/\i<=l.length/\oO (l.drop n)=(oO (l.drop i)).map (·+(i-n))
theorem QAt.step{l:List UInt8}{n i:Nat}(h:QAt l n i)(hi:i<l.length)(hc:l[i]≠39):QAt l n (i+1):=by
 refine⟨by have:=h.1;omega,by omega,?_⟩;rw[h.2.2,aZ hi,oG hc,Option.map_map]
 congr 1
 funext x
 simp only[Function.comp];have:=h.1;omega
theorem QAt.pair{l:List UInt8}{n i:Nat}(h:QAt l n i)(hi:i+1<l.length)(hc:l[i]=39)(hd:l[i+1]=39):QAt l n (i+2):=by
 refine⟨by have:=h.1;omega,by omega,?_⟩;rw[h.2.2,aZ aE,aZ hi,hc,hd,uF,Option.map_map]
 congr 1
 funext x
 simp only[Function.comp];have:=h.1;omega
theorem QAt.done{l:List UInt8}{n i:Nat}(h:QAt l n i)(hi:i<l.length)(hc:l[i]=39)(hd:(l.drop (i+1)).head?≠some 39):vR l n= .returned (.int .i64 ((i:Int)+1)):=by
 have:oO (l.drop n)=some (1+(i-n)):=(by rw[h.2.2,aZ hi,hc,uU hd];rfl);unfold vR;rw[this];have:=h.1;simp only
 congr 2
 omega
theorem QAt.none{l:List UInt8}{n:Nat}(h:QAt l n l.length):vR l n= .panicked [{v:= .iface 47 (.int .i64 250),recovered:=false}]:=by
 have:oO (l.drop n)=Option.none:=(by rw[h.2.2];simp[oO]);unfold vR;rw[this]
theorem zP(l:List UInt8)(n:Nat)(hn:n<=l.length)(hl:l.length<=1000000)(w:World):eg 235 #[S l,.int .i64 n] w fun e w'=>e=vR l n/\w=w':=by
 go_enter func235,ntmps235;go_wp2_with fail
 go_loop [5] (fun i=>∃k:Nat,k<=l.length/\i= .int .i64 k/\Hid (QAt l n k)) (fun i=>l.length-(intOf i).toNat)
 case atStart=>exact⟨n,hn,rfl,⟨aH _,hn,by simp⟩⟩
 case round=>
  obtain⟨k,hk,rfl,HQ⟩:=hrel;by_cases hlt:k<l.length
  ·have hcut:=a8g l k hlt;have htail:=wU l (k+1);have HK:Hid (l[k]=l[k]):=rfl;by_cases hc:l[k]=39
   ·have HC:=aB hc;rw[hc] at hcut;clear hc HK;go_wp2_with fail;refine(nQ (l.drop (k+1)) [39] _).mono ?_;rintro e w' ⟨rfl,rfl⟩;rw[sP];clear hcut htail;by_cases hd:(l.drop (k+1)).head?=some 39
    ·have hb:((l.drop (k+1)).head?==some 39)=true:=by simp[hd]
     rw[hb];have hk1:k+1<l.length:=by
      rcases Nat.lt_or_ge (k+1) l.length with h|h
      ·exact h
      ·rw[List.drop_of_length_le h] at hd;simp at hd
     have HD:Hid (l[k+1]=39):=by
      show l[k+1]=39;rw[fQ,aP hk1] at hd;simpa using hd
     clear hb hd;go_wp2
     go_round
     case rel=>exact⟨k+2,by omega,by go_num,HQ.o.pair hk1 HC.o HD.o⟩
     case measure=>simp[intOf];omega
    ·have hb:((l.drop (k+1)).head?==some 39)=false:=by simpa using hd
     rw[hb];have HD:=aB hd;clear hb hd;go_wp2;go_ret;exact⟨(HQ.o.done hlt HC.o HD.o).symm,rfl⟩
   ·have HC:=aB hc;have hb:([l[k]] != [39])=true:=(by simpa using hc);have hb':([l[k]]==[39])=false:=(by simpa using hc);have hb2:(l[k] != 39)=true:=(by simpa using hc);have hb2':(l[k]==39)=false:=(by simpa using hc);clear hc HK;go_wp2
    go_round
    case rel=>exact⟨k+1,by omega,by go_num,HQ.o.step hlt HC.o⟩
    case measure=>simp[intOf];omega
  ·obtain rfl:k=l.length:=by omega
   go_wp2;exact⟨rfl,HQ.o.none.symm,rfl⟩
def a6t(l:List UInt8)(k:Nat):Prop:=bX false (l.drop k)=bX false l
theorem a6t.blanks{l:List UInt8}{k:Nat}(h:a6t l k):a6t l (k+jJ iR (l.drop k))/\Stops iR (l.drop (k+jJ iR (l.drop k))):=by
 refine⟨?_,by rw[<-iI];exact b5b _ _⟩;unfold a6t at h⊢;rw[<-h,<-iI,<-a5c]
theorem a6t.stays{l:List UInt8}{k:Nat}(hk:k<=l.length)(h:a6t l k)(hs:Stops iR (l.drop k))(h2:aS (l.drop k) [45,45]=false):l.length-(bX false l).length=k:=by
 rw[mX] at h2;rw[<-h,sM hs (by rintro⟨h3,h4⟩;simp[h3,h4] at h2)];simp;omega
theorem a6t.remark{l:List UInt8}{k:Nat}(h:a6t l k)(h2:aS (l.drop k) [45,45]=true):bX true (l.drop k)=bX false l/\(l.drop k).head?=some 45:=by
 rw[mX] at h2;simp only[aQ,beq_iff_eq] at h2;exact⟨by rw[<-h,<-xX h2],h2.1⟩
theorem a6t.last{l:List UInt8}{k:Nat}(h:a6t l k)(h2:aS (l.drop k) [45,45]=true)(hn:dR (l.drop k) 10<0):l.length-(bX false l).length=l.length:=by
 have hm:dR (l.drop k) 10= -1:=(by have:=Lib.indexByte_ge (l.drop k) 10;omega);have h3:=Lib.indexByte_none hm;rw[<-(h.remark h2).1,a3e]
 ·simp
 ·intro c hc e;obtain⟨j,hj⟩:=oK.1 hc;exact h3 j (by rw[hj,e])
theorem a6t.line{l:List UInt8}{k n:Nat}(h:a6t l k)(h2:aS (l.drop k) [45,45]=true)(hn:dR (l.drop k) 10=n):a6t l (k+n)/\k+n<l.length/\1<=n:=by
 obtain⟨h3,h4⟩:=Lib.indexByte_some hn;obtain⟨r1,r2⟩:=h.remark h2;have hl:=(aO.1 h3).1;simp at hl;refine⟨?_,by omega,?_⟩
 ·unfold a6t;rw[<-iI,<-b9c n h3,r1];intro c hc e;obtain⟨j,hj⟩:=oK.1 hc;rw[rA] at hj;split at hj
  ·rename_i hjn;exact h4 j hjn (by rw[hj,e])
  ·cases hj
 ·rcases Nat.eq_zero_or_pos n with rfl|h5
  ·rw[nJ] at r2;rw[r2] at h3;cases h3
  ·exact h5
theorem a4q(l:List UInt8)(hl:l.length<=1000000)(w:World):eg 129 #[S l] w fun e w'=>e= .returned (.int .i64 ((l.length-(bX false l).length:Nat):Int))/\Bl w w':=by
 go_enter func129,ntmps129;go_wp2_with fail;go_loopw [3] (fun i wr=>∃k:Nat,k<=l.length/\i= .int .i64 k/\Hid (a6t l k)/\Bl w wr) (fun i _=>l.length-(intOf i).toNat)
 case atStart=>exact⟨0,by omega,rfl,rfl,Bl.refl w⟩
 case round=>
  obtain⟨k,hk,rfl,HK,hB⟩:=hrel;have htail:=wU l k;have hr:=xL iR (l.drop k);have hr':k+jJ iR (l.drop k)<=l.length:=(by simp at hr;omega);have HB:=aB (a6t.blanks HK.o);go_wp2_with fail;refine(wI b4y (l.drop k) ak _).mono ?_;rintro e w1 ⟨rfl,hb1⟩;clear htail hr;generalize jJ iR (l.drop k)=m at *;have htail:=wU l (k+m);go_wp2_with fail;refine(nQ (l.drop (k+m)) [45,45] _).mono ?_;rintro e w' ⟨rfl,rfl⟩;cases hp:aS (l.drop (k+m)) [45,45]
  ·have HP:=aB hp;clear hp;go_wp2;go_ret;refine⟨lI ?_,hB.call hb1⟩;rw[a6t.stays hr' HB.o.1 HB.o.2 HP.o];simp
  ·have HP:=aB hp;clear hp;go_wp2_with fail;refine(c0u (l.drop (k+m)) 10 _).mono ?_;rintro e w' ⟨rfl,rfl⟩;clear htail;by_cases hn:dR (l.drop (k+m)) 10<0
   ·have HL:=aB (HB.o.1.last HP.o hn);generalize dR (l.drop (k+m)) 10=n at *;go_wp2;go_ret;exact⟨lI (by rw[HL.o]),hB.call hb1⟩
   ·obtain⟨n,hn'⟩:∃n:Nat,dR (l.drop (k+m)) 10=n:=⟨(dR (l.drop (k+m)) 10).toNat,by omega⟩
    obtain⟨q1,q2,q3⟩:=HB.o.1.line HP.o hn';have HQ:=aB q1;rw[hn'];clear hn hn' q1;go_wp2;go_roundw
    case rel=>exact⟨k+m+n,by omega,by go_num,HQ.o,hB.call hb1⟩
    case measure=>simp[intOf];omega
end
section
def kT:List (List UInt8):=[[60,62],[60,61],[62,61],[124,124],[40],[41],[44],[46],[59],[42],[43],[45],[47],[37],[61],[60],[62]]
def iN(l:List UInt8):List UInt8:=(kT.find? fun x=>aS l x).getD []
def b4w(c:UInt8)(h:Option UInt8):List UInt8->Bool
 |[a]=>c==a
 |[a,b]=>c==a&&h==some b
 |_=>false
theorem c2x(c:UInt8)(r x:List UInt8)(hx:x∈kT):aS (c::r) x=b4w c r.head? x:=by
 have h1:∀a,aS (c::r) [a]=b4w c r.head? [a]:=fun a=>(by rw[sP];simp[b4w]);have h2:∀a b,aS (c::r) [a,b]=b4w c r.head? [a,b]:=fun a b=>by
  rw[mX];simp[b4w,nJ]
 simp only[kT,dD,fV,or_false] at hx;rcases hx with rfl|rfl|rfl|rfl|rfl|rfl|rfl|rfl|rfl|rfl|rfl|rfl|rfl|rfl|rfl|rfl|rfl<;>first |exact h2 _ _|exact h1 _
theorem find_congr{α:Type}{p q:α->Bool}:∀{l:List α},(∀x∈l,p x=q x)->l.find? p=l.find? q
 |[],_=>rfl
 |a::l,h=>by
  rw[List.find?_cons,List.find?_cons,h a aa,find_congr fun x hx=>h x (by simp[hx])]
theorem wP(c:UInt8)(r:List UInt8):(iN (c::r)).length=yP c r.head?:=by
 have e:iN (c::r)=(kT.find? (b4w c r.head?)).getD []:=by
  unfold iN;rw[find_congr fun x hx=>c2x c r x hx]
 rw[e];generalize r.head?=h;by_cases c60:c=60
 ·subst c60;by_cases h1:h=some 62
  ·subst h1;rfl
  by_cases h2:h=some 61
  ·subst h2;rfl
  ·simp[kT,b4w,yP,h1,h2]
 by_cases c62:c=62
 ·subst c62;by_cases h2:h=some 61
  ·subst h2;rfl
  ·simp[kT,b4w,yP,h2]
 by_cases c124:c=124
 ·subst c124;by_cases h2:h=some 124
  ·subst h2;rfl
  ·simp[kT,b4w,yP,h2]
 by_cases hm:c∈([40,41,44,46,59,42,43,45,47,37,61]:List UInt8)
 ·have hs:yP c h=1:=by simp only[yP,if_neg c60,if_neg c62,if_neg c124,if_pos hm]
  rw[hs];simp only[dD,fV,or_false] at hm;rcases hm with rfl|rfl|rfl|rfl|rfl|rfl|rfl|rfl|rfl|rfl|rfl<;>simp[kT,b4w]
 ·have hs:yP c h=0:=by simp only[yP,if_neg c60,if_neg c62,if_neg c124,if_neg hm]
  rw[hs];simp only[dD,fV,or_false,not_or] at hm;simp[kT,b4w,c60,c62,c124,hm]
def xU(l:List UInt8):Option Nat:=if aS l [120,39]=true\/jJ cZ (l.take 1)=0 then some 0 else if jJ jP l<=30 then some (jJ jP l) else none
def vH(l:List UInt8):Option Nat:=if aS l [39]=true then(oO (l.drop 1)).map (1+·) else if aS l [120,39]=true then(oO (l.drop 2)).map (2+·)
 else if jJ dI l=0\/jJ dI l=l.length\/jJ cZ ((l.drop (jJ dI l)).take 1)=0 then some (jJ dI l) else none
def c0p(l:List UInt8):Option (Int×Nat):=match xU l with
 |none=>none
 |some (n+1)=>some (1,n+1)
 |some 0=>match vH l with
  |none=>none
  |some (n+1)=>some (2,n+1)
  |some 0=>if(iN l).length=0 then none else some (3,(iN l).length)
theorem xK(p:UInt8->Bool)(c:UInt8)(r:List UInt8):jJ p ((c::r).take 1)=if p c then 1 else 0:=by
 simp[iP,zB]
theorem a0l(l:List UInt8):jJ cZ (l.take 1)=0↔¬(l.head?.map cZ=some true):=by
 cases l with
 |nil=>simp[zB]
 |cons c r=>rw[xK];cases h:cZ c<;>simp[h]
theorem a8q(c:UInt8)(r:List UInt8):c0p (c::r)=rU (c::r):=by
 rw[jE];have hx:aS (c::r) [120,39]=true↔c=120/\r.head?=some 39:=by
  rw[mX];simp[nJ]
 have hq:aS (c::r) [39]=true↔c=39:=(by rw[sP];simp);by_cases hl:cZ c=true/\¬(c=120/\r.head?=some 39)
 ·rw[if_pos hl];have hw:xU (c::r)=if jJ jP r+1<=30 then some (jJ jP r+1) else none:=by
   have hno:¬(aS (c::r) [120,39]=true\/jJ cZ ((c::r).take 1)=0):=by
    rw[hx,xK,if_pos hl.1];rintro(h|h)
    ·exact hl.2 h
    ·omega
   have hrun:jJ jP (c::r)=jJ jP r+1:=(by rw[iP,if_pos (by simp[jP,hl.1])]);unfold xU;rw[if_neg hno,hrun]
  unfold c0p;rw[hw];split<;>rename_i h<;>split at h<;>simp_all
 ·rw[if_neg hl];have hw:xU (c::r)=some 0:=by
   unfold xU;rw[if_pos];rw[hx,xK];by_cases h:cZ c=true
   ·left;by_cases h2:c=120/\r.head?=some 39
    ·exact h2
    ·exact absurd ⟨h,h2⟩ hl
   ·right;rw[if_neg h]
  unfold c0p;rw[hw];simp only;by_cases h39:c=39
  ·rw[if_pos h39];have hv:vH (c::r)=(oO r).map (1+·):=(by unfold vH;rw[if_pos (hq.2 h39)];rfl);rw[hv];cases hr:oO r with
   |none=>rfl
   |some k=>simp[oJ 1 k]
  ·rw[if_neg h39];by_cases h120:c=120
   ·rw[if_pos h120];have h2:r.head?=some 39:=by
     by_cases h2:r.head?=some 39
     ·exact h2
     ·exact absurd ⟨by rw[h120];decide,fun h=>h2 h.2⟩ hl
    have hv:vH (c::r)=(oO (r.drop 1)).map (2+·):=(by unfold vH;rw[if_neg (by rw[hq];exact h39),if_pos (hx.2 ⟨h120,h2⟩)];rfl);rw[hv];cases hr:oO (r.drop 1) with
    |none=>rfl
    |some k=>simp[oJ 2 k]
   ·rw[if_neg h120];have hv:vH (c::r)=if jJ dI (c::r)=0\/jJ dI (c::r)=(c::r).length\/jJ cZ (((c::r).drop (jJ dI (c::r))).take 1)=0 then some (jJ dI (c::r)) else none:=by
     unfold vH;rw[if_neg (by rw[hq];exact h39),if_neg (by rw[hx];exact fun h=>h120 h.1)]
    rw[hv];by_cases hd:dI c=true
    ·rw[if_pos hd];have e:jJ dI (c::r)=jJ dI r+1:=(by rw[iP,if_pos hd]);rw[e,gB];by_cases hh:(r.drop (jJ dI r)).head?.map cZ=some true
     ·rw[if_pos hh,if_neg];rintro(h|h|h)
      ·omega
      ·simp at h;rw[h,dO] at hh;simp at hh
      ·exact(a0l _).1 h hh
     ·rw[if_neg hh,if_pos (.inr (.inr ((a0l _).2 hh)))]
    ·rw[if_neg hd];have e:jJ dI (c::r)=0:=(by rw[iP,if_neg hd]);rw[e,if_pos (.inl rfl)];simp only;rw[wP]
def b7b(o:Option Nat):Ending:=match o with
 |some n=> .returned (.int .i64 (n:Int))
 |none=> .panicked [{v:= .iface 47 (.int .i64 250),recovered:=false}]
theorem a2b(l:List UInt8)(n:Nat):vR l n=b7b ((oO (l.drop n)).map (n+·)):=by
 unfold vR b7b;cases oO (l.drop n)<;>rfl
theorem oI{o:Option Nat}{n:Nat}(h:o=some n):bQ (.int .i64 (n:Int))=b7b o:=by rw[h];rfl
theorem wW{o:Option Nat}(h:o=none):lK [{v:= .iface 47 (.int .i64 250),recovered:=false}]=b7b o:=by rw[h];rfl
theorem a4z(l:List UInt8)(h1:1<=l.length)(hl:l.length<=1000000)(w:World):eg 233 #[S l] w fun e w'=>e=b7b (xU l)/\Bl w w':=by
 have hh:=b0o l 1;go_enter func233,ntmps233;go_wp2_with fail;refine(nQ l [120,39] _).mono ?_;rintro e w' ⟨rfl,rfl⟩;cases hp:aS l [120,39]
 ·have HP:=aB hp;clear hp;go_wp2_with fail;refine(wI a1v (l.take 1) ak _).mono ?_;rintro e w1 ⟨rfl,hb1⟩;clear hh;by_cases h0:jJ cZ (l.take 1)=0
  ·have hb:(((jJ cZ (l.take 1):Nat):Int)==0)=true:=by simp[h0]
   have HW:Hid (xU l=some 0):=(by show xU l=some 0;unfold xU;rw[if_pos (.inr h0)]);clear h0;go_wp2_with fail;go_ret;exact⟨oI HW.o,hb1⟩
  ·have hb:(((jJ cZ (l.take 1):Nat):Int)==0)=false:=by simpa using h0
   have HW:Hid (xU l=if jJ jP l<=30 then some (jJ jP l) else none):=(by show xU l=_;unfold xU;rw[if_neg (by rw[HP.o];simpa using h0)]);clear h0;go_wp2_with fail;refine(wI b9e l hl _).mono ?_;rintro e w2 ⟨rfl,hb2⟩;clear hb;by_cases h30:jJ jP l<=30
   ·have HW2:Hid (xU l=some (jJ jP l)):=by show xU l=_;rw[HW.o,if_pos h30]
    have hb30:decide (((jJ jP l:Nat):Int)<=30)=true:=ak;go_wp2_with (first |(go_at_call 128;(with_reducible refine(rG _ _).mono ?_);rintro e w' ⟨rfl,rfl⟩))
    go_ret;exact⟨oI HW2.o,hb1.call hb2⟩
   ·have HW2:Hid (xU l=none):=by show xU l=_;rw[HW.o,if_neg h30]
    have hb30:decide (((jJ jP l:Nat):Int)<=30)=false:=ak;go_wp2_with (first |(go_at_call 128;(with_reducible refine(zA _ _).mono ?_);rintro e w' ⟨rfl,rfl⟩))
    exact⟨rfl,wW HW2.o,hb1.call hb2⟩
 ·have HW:Hid (xU l=some 0):=by show xU l=some 0;unfold xU;rw[if_pos (.inl hp)]
  clear hp;go_wp2_with fail;go_ret;exact⟨oI HW.o,Bl.refl _⟩
theorem a4y(l:List UInt8)(h1:1<=l.length)(hl:l.length<=1000000)(w:World):eg 234 #[S l] w fun e w'=>e=b7b (vH l)/\Bl w w':=by
 go_enter func234,ntmps234;go_wp2_with fail;refine(nQ l [39] _).mono ?_;rintro e w' ⟨rfl,rfl⟩;cases hp:aS l [39]
 ·have HP:=aB hp;clear hp;go_wp2_with fail;refine(nQ l [120,39] _).mono ?_;rintro e w' ⟨rfl,rfl⟩;cases hp2:aS l [120,39]
  ·have HV:Hid (vH l=if jJ dI l=0\/jJ dI l=l.length\/jJ cZ ((l.drop (jJ dI l)).take 1)=0 then some (jJ dI l) else none):=by
    show vH l=_;unfold vH;rw[if_neg (by rw[HP.o];decide),if_neg (by rw[hp2];decide)]
   clear hp2 HP;go_wp2_with fail;refine(wI b4x l hl _).mono ?_;rintro e w1 ⟨rfl,hb1⟩;have hle:=xL dI l;generalize jJ dI l=n at *;by_cases h0:n=0
   ·subst h0;have HW:Hid (vH l=some 0):=(by show vH l=_;rw[HV.o,if_pos (.inl rfl)]);go_wp2_with (first |(go_at_call 128;(with_reducible refine(rG _ _).mono ?_);rintro e w' ⟨rfl,rfl⟩))
    go_ret;exact⟨oI HW.o,hb1⟩
   by_cases h2:n=l.length
   ·subst h2;have hb0:((l.length:Int)==0)=false:=cA;have HW:Hid (vH l=some l.length):=(by show vH l=_;rw[HV.o,if_pos (.inr (.inl rfl))]);go_wp2_with (first |(go_at_call 128;(with_reducible refine(rG _ _).mono ?_);rintro e w' ⟨rfl,rfl⟩))
    go_ret;exact⟨oI HW.o,hb1⟩
   ·have hb0:((n:Int)==0)=false:=by simpa using h0
    have hb2:((n:Int)==(l.length:Int))=false:=ak;have hb2':(n==l.length)=false:=cH;have hlt:n<l.length:=aE;have hcut:=a8g l n hlt;have HT:Hid ((l.drop n).take 1=[l[n]]):=(by show(l.drop n).take 1=[l[n]];rw[aZ hlt];rfl);go_wp2_with fail;refine(wI a1v [l[n]] aa _).mono ?_;rintro e w2 ⟨rfl,hb3⟩;rw[<-HT.o];by_cases hr:jJ cZ ((l.drop n).take 1)=0
    ·have hb:(((jJ cZ ((l.drop n).take 1):Nat):Int)==0)=true:=by simp[hr]
     have HW:Hid (vH l=some n):=(by show vH l=_;rw[HV.o,if_pos (.inr (.inr hr))]);clear hr hb0 hb2 hb2' hcut;go_wp2_with (first |(go_at_call 128;(with_reducible refine(rG _ _).mono ?_);rintro e w' ⟨rfl,rfl⟩))
     go_ret;exact⟨oI HW.o,hb1.call hb3⟩
    ·have hb:(((jJ cZ ((l.drop n).take 1):Nat):Int)==0)=false:=by simpa using hr
     have HW:Hid (vH l=none):=by
      show vH l=_;rw[HV.o,if_neg];rintro(h|h|h)
      ·exact h0 h
      ·exact h2 h
      ·exact hr h
     clear hr hb0 hb2 hb2' hcut;go_wp2_with (first |(go_at_call 128;(with_reducible refine(zA _ _).mono ?_);rintro e w' ⟨rfl,rfl⟩))
     exact⟨rfl,wW HW.o,hb1.call hb3⟩
  ·have HV:Hid (vH l=(oO (l.drop 2)).map (2+·)):=by show vH l=_;unfold vH;rw[if_neg (by rw[HP.o];decide),if_pos hp2]
   have h2:2<=l.length:=by
    rw[mX] at hp2;simp only[aQ,beq_iff_eq] at hp2;have:=(aO.1 hp2.2).1;omega
   clear hp2 HP;go_wp2_with fail;refine(zP l 2 h2 hl _).mono ?_;rintro e w' ⟨rfl,rfl⟩;rw[a2b,<-HV.o];cases hv:vH l with
   |none=>exact⟨rfl,wW hv,Bl.refl _⟩
   |some k=>
    have HK:=aB hv;clear hv;simp only[b7b];go_wp2_with fail;go_ret;exact⟨oI HK.o,Bl.refl _⟩
 ·have HV:Hid (vH l=(oO (l.drop 1)).map (1+·)):=by show vH l=_;unfold vH;rw[if_pos hp]
  clear hp;go_wp2_with fail;refine(zP l 1 h1 hl _).mono ?_;rintro e w' ⟨rfl,rfl⟩;rw[a2b,<-HV.o];cases hv:vH l with
  |none=>exact⟨rfl,wW hv,Bl.refl _⟩
  |some k=>
   have HK:=aB hv;clear hv;simp only[b7b];go_wp2_with fail;go_ret;exact⟨oI HK.o,Bl.refl _⟩
end
section
theorem Bl.drewN(w:World)(q:Nat):Bl w (w.drewN q):=⟨rfl,rfl,rfl,aH _,fun _ _=>rfl⟩
def b1m:Array Value:=(kT.map fun x=>S x).toArray
theorem b1c(w:World):eg 238 #[] w fun e w'=>e= .returned (.slice (some ⟨w.heap.size,0,none⟩) 17 17)/\w'=w.alloc (.cells b1m 9):=by
 go_enter func238,ntmps238;go_wp2;go_ret;exact⟨rfl,rfl⟩
theorem a3c(x l:List UInt8)(B:Nat)(W:World)(hB:W.cell? ⟨B,0,none⟩=some (S l)):eg 239 #[S x,.pointer (some ⟨B,0,none⟩)] W fun e w'=>e= .returned (.bool (aS l x))/\W=w':=by
 go_enter func239,ntmps239;go_wp2_with fail;refine(nQ l x _).mono ?_;rintro e w' ⟨rfl,rfl⟩;go_wp2;go_ret;exact⟨rfl,rfl⟩
theorem yU(args:Array Value)(w:World):(callFunc 239 args).run prog w= .ok (.enter 239 args) w:=by
 simp[go_sem]
theorem b0l(p:List UInt8->Bool)(d:List UInt8):∀(zs:List (List UInt8)) (i:Nat),(zs.find? p=none/\pJ (fun _ y=>p y) d zs i= -1)\/∃k,k<zs.length/\pJ (fun _ y=>p y) d zs i=((i+k:Nat):Int)/\zs.find? p=some zs[k]!
 |[],i=> .inl ⟨rfl,rfl⟩
 |z::zs,i=>by
  by_cases hz:p z=true
  ·exact .inr ⟨0,by simp,by simp[pJ,hz],by simp[hz]⟩
  ·rcases b0l p d zs (i+1) with⟨h1,h2⟩|⟨k,hk,h1,h2⟩
   ·exact .inl ⟨by simp[hz,h1],by simp[pJ,hz,h2]⟩
   ·exact .inr ⟨k+1,by simp;omega,by simp only[pJ,hz];rw[h1];simp;omega,by simp[hz,h2]⟩
theorem b1i(l:List UInt8)(b B:Nat)(w:World)(hc:∀j,j<kT.length->w.cell? ⟨b,0+j,none⟩=some (S kT[j]!))(hB:w.cell? ⟨B,0,none⟩=some (S l)):
  eg 237 #[.slice (some ⟨b,0,none⟩) 17 17,.func (.func 239) #[] #[.pointer (some ⟨B,0,none⟩)]] w fun e w'=>(∃f,e= .returned (.tuple #[S (iN l),.bool f]))/\Bl w w':=by
 have HC:=aB hc;clear hc;have hp:PredAt prog 239 #[.pointer (some ⟨B,0,none⟩)] (fun x:List UInt8=>S x) (fun x=>aS l x) w:=fun W x hb=>
  (a3c x l B W (Bl.cell hb hB)).mono fun e w' ⟨he,hw⟩=>⟨he,0,hw.symm⟩
 have HP:=aB hp;clear hp;go_enter func237,ntmps237;go_wp2_with fail;refine(Tryz.slices_IndexFunc (fun x:List UInt8=>S x) (fun x=>aS l x) 239 #[.pointer (some ⟨B,0,none⟩)] yU b 0 17 17 kT _ HP.o ae ae HC.o).mono ?_;rintro e w' ⟨rfl,q,rfl⟩;rcases b0l (fun x=>aS l x) default kT 0 with⟨h1,h2⟩|⟨k,hk,h1,h2⟩
 ·rw[show Lib.idxBy (fun _ y=>aS l y) (kT.take 17) default= -1 from h2];have HS:Hid (iN l=[]):=(by show iN l=[];unfold iN;rw[h1];rfl);clear h1 h2;go_wp2;go_ret2;exact⟨⟨_,by rw[HS.o];rfl⟩,Bl.drewN _ _⟩
 ·rw[show Lib.idxBy (fun _ y=>aS l y) (kT.take 17) default=((k:Nat):Int) by rw[show((k:Nat):Int)=((0+k:Nat):Int) by simp];exact h1];have hk17:k<17:=hk;have HS:Hid (iN l=kT[k]!):=(by show iN l=kT[k]!;unfold iN;rw[h2];rfl);have hcell:(w.drewN q).cell? ⟨b,k,none⟩=some (S kT[k]!):=by
   have:=HC.o k hk;rw[gD] at this;exact this
  clear h1 h2 hk;generalize kT[k]! =x at *;go_wp2;go_ret2;exact⟨⟨_,by rw[HS.o];rfl⟩,Bl.drewN _ _⟩
theorem a5d:∀j,j<17->b1m[j]?=some (S kT[j]!)
 |0,_=>rfl
 |1,_=>rfl
 |2,_=>rfl
 |3,_=>rfl
 |4,_=>rfl
 |5,_=>rfl
 |6,_=>rfl
 |7,_=>rfl
 |8,_=>rfl
 |9,_=>rfl
 |10,_=>rfl
 |11,_=>rfl
 |12,_=>rfl
 |13,_=>rfl
 |14,_=>rfl
 |15,_=>rfl
 |16,_=>rfl
 |n+17,h=>absurd h aE
theorem b9d(w:World)(b:Nat)(hb:b=w.heap.size):∀j,j<kT.length->(w.alloc (.cells b1m 9)).cell? ⟨b,0+j,none⟩=some (S kT[j]!):=by
 intro j hj;subst hb;rw[aG (aN w _),gD];exact a5d j hj
theorem a4x(l:List UInt8)(_hl:l.length<=1000000)(w:World):eg 236 #[S l] w fun e w'=>e=b7b (some (iN l).length)/\Bl w w':=by
 have hmf:∀(fn:Fn) (first cap:Array Value) (w:World),(Instr.makeFunc fn first cap).run prog w= .ok (.func fn first cap) w:=fun _ _ _ _=>rfl;have HC:=aB (b9d (w.alloc (.cells #[S l] 9)) (w.heap.size+1) aa);have HL:Hid (((w.alloc (.cells #[S l] 9)).alloc (.cells b1m 9)).cell? ⟨w.heap.size,0,none⟩=some (S l)):=by
  show _=_;rw[aG ((aW _ _ aa).trans (aN w _))];rfl
 go_enter func236,ntmps236;go_wp2_with fail;refine(b1c _).mono ?_;rintro e w' ⟨rfl,rfl⟩;go_wp2_with fail
 (with_reducible refine(b1i l (w.heap.size+1) w.heap.size _ HC.o HL.o).mono ?_)
 rintro e w2 ⟨⟨f,rfl⟩,hb⟩;go_wp2;go_ret;exact⟨rfl,(((Bl.refl w).alloc _).alloc _).call hb⟩
abbrev c4z:Array MapEntry:= #[lE 1 233 0,lE 2 234 1,lE 3 236 2]
def a2q(k:Int):FuncId:=if k=1 then 233 else if k=2 then 234 else 236
theorem d0i(w:World):(Instr.mapUpdate 224 (.map (some w.heap.size)) (.int .i64 1) (.func (.func 233) #[] #[])).run prog (w.alloc (.map #[] 0))= .ok () (w.alloc (.map #[lE 1 233 0] 1)):=
 eQ underlying224 underlying70 w #[] 0 1 _ rfl
theorem d0h(w:World):(Instr.mapUpdate 224 (.map (some w.heap.size)) (.int .i64 2) (.func (.func 234) #[] #[])).run prog (w.alloc (.map #[lE 1 233 0] 1))= .ok () (w.alloc (.map #[lE 1 233 0,lE 2 234 1] 2)):=
 eQ underlying224 underlying70 w #[lE 1 233 0] 1 2 _ rfl
theorem d0g(w:World):(Instr.mapUpdate 224 (.map (some w.heap.size)) (.int .i64 3) (.func (.func 236) #[] #[])).run prog (w.alloc (.map #[lE 1 233 0,lE 2 234 1] 2))= .ok () (w.alloc (.map c4z 3)):=
 eQ underlying224 underlying70 w #[lE 1 233 0,lE 2 234 1] 2 3 _ rfl
theorem a7k(w:World):eg 186 #[] w fun e w'=>e= .returned (.map (some w.heap.size))/\w'=w.alloc (.map c4z 3):=by
 have hmm:= @run_makeMap prog;have h0:=d0i;have h1:=d0h;have h2:=d0g;go_enter func186,ntmps186;go_wp2;go_ret;exact⟨rfl,rfl⟩
theorem a8b{w:World}{r:Nat}(hb:w.heap[r]?=some (.map c4z 3)){k:Int}(h0:1<=k)(h4:k<=3):
  (Instr.lookup 224 (.map (some r)) (.int .i64 k) false).run prog w= .ok (.func (.func (a2q k)) #[] #[]) w:=by
 have hk:k=1\/k=2\/k=3:=aE;rcases hk with rfl|rfl|rfl
 ·exact eP underlying224 underlying70 hb (i:=0) rfl
 ·exact eP underlying224 underlying70 hb (i:=1) rfl
 ·exact eP underlying224 underlying70 hb (i:=2) rfl
theorem a3u(k:Int)(args:Array Value)(w:World):(callFunc (a2q k) args).run prog w= .ok (.enter (a2q k) args) w:=by
 unfold a2q;split
 ·simp[go_sem]
 split
 ·simp[go_sem]
 ·simp[go_sem]
def c4y(k:Nat)(l:List UInt8):Option Nat:=if k=1 then xU l else if k=2 then vH l else some (iN l).length
theorem b3f(k:Nat)(l:List UInt8)(h1:1<=l.length)(hl:l.length<=1000000)(hk:1<=k/\k<=3)(w:World):eg (a2q k) #[S l] w fun e w'=>e=b7b (c4y k l)/\Bl w w':=by
 obtain rfl|rfl|rfl:k=1\/k=2\/k=3:=by omega
 ·exact a4z l h1 hl w
 ·exact a4y l h1 hl w
 ·exact a4x l hl w
end
section
def fP(s:List UInt8):Option (Int×Int×List UInt8):=if(dF s).2.2.2=0 then some ((dF s).1,(dF s).2.1,(dF s).2.2.1) else none
abbrev TV(k pos:Int)(t:List UInt8)(a b:Int)(c:List UInt8):Value:= .agg #[.int .i64 k,.int .i64 pos,S t,.int .i64 a,.int .i64 b,S c]
def pF(l:List UInt8)(n:Nat):Ending:=match rM fP (l.drop n) with
 |some x=> .returned (TV x.1 n ((l.drop n).take x.2.1) x.2.2.1 x.2.2.2.1 x.2.2.2.2)
 |none=> .panicked [{v:= .iface 47 (.int .i64 250),recovered:=false}]
def Tried(l:List UInt8)(k:Nat):Prop:=1<=k/\k<=4/\∀j,1<=j->j<k->c4y j l=some 0
theorem a8s{s:List UInt8}(h:1<=s.length):∃c r,s=c::r:=by
 cases s with
 |nil=>simp at h
 |cons c r=>exact⟨c,r,rfl⟩
theorem Tried.hit{s:List UInt8}(hs:1<=s.length){k m:Nat}(h:Tried s k)(hk:k<4)(hm:c4y k s=some (m+1)):rU s=some ((k:Int),m+1):=by
 obtain⟨c,r,rfl⟩:=a8s hs;rw[<-a8q];obtain⟨h1,_,h2⟩:=h;obtain rfl|rfl|rfl:k=1\/k=2\/k=3:=by omega
 ·have hm:xU (c::r)=some (m+1):=hm;unfold c0p;rw[hm];rfl
 ·have hw:xU (c::r)=some 0:=h2 1 aE aE;have hm:vH (c::r)=some (m+1):=hm;unfold c0p;rw[hw,hm];rfl
 ·have hw:xU (c::r)=some 0:=h2 1 aE aE;have hv:vH (c::r)=some 0:=h2 2 aE aE;have hm:some (iN (c::r)).length=some (m+1):=hm;injection hm with hm;unfold c0p;rw[hw,hv];simp only;rw[hm,if_neg aE];rfl
theorem Tried.bad{s:List UInt8}(hs:1<=s.length){k:Nat}(h:Tried s k)(hk:k<4)(hm:c4y k s=none):rU s=none:=by
 obtain⟨c,r,rfl⟩:=a8s hs;rw[<-a8q];obtain⟨h1,_,h2⟩:=h;obtain rfl|rfl|rfl:k=1\/k=2\/k=3:=by omega
 ·have hm:xU (c::r)=none:=hm;unfold c0p;rw[hm]
 ·have hw:xU (c::r)=some 0:=h2 1 aE aE;have hm:vH (c::r)=none:=hm;unfold c0p;rw[hw,hm]
 ·cases hm
theorem Tried.all{s:List UInt8}(hs:1<=s.length)(h:Tried s 4):rU s=none:=by
 obtain⟨c,r,rfl⟩:=a8s hs;rw[<-a8q];obtain⟨h1,_,h2⟩:=h;have hw:xU (c::r)=some 0:=h2 1 aE aE;have hv:vH (c::r)=some 0:=h2 2 aE aE;have hm:some (iN (c::r)).length=some 0:=h2 3 aE aE;injection hm with hm;unfold c0p;rw[hw,hv];simp only;rw[hm,if_pos rfl]
theorem Tried.next{s:List UInt8}{k:Nat}(h:Tried s k)(hk:k<4)(hm:c4y k s=some 0):Tried s (k+1):=
 ⟨by omega,by omega,fun j h1 h2=>by
  by_cases e:j=k
  ·rw[e];exact hm
  ·exact h.2.2 j h1 aE⟩
theorem a0f{l s:List UInt8}{n:Nat}(hs:l.drop n=s)(h:rU s=none):lK [{v:= .iface 47 (.int .i64 250),recovered:=false}]=pF l n:=by
 unfold pF rM;rw[hs,h];rfl
theorem a5r{l s:List UInt8}{n m:Nat}{k:Int}(hs:l.drop n=s)(h:rU s=some (k,m))(hk:k≠2):bQ (TV k n (s.take m) 0 0 [])=pF l n:=by
 unfold pF rM valOf;rw[hs,h];simp[hk]
theorem a5q{l s:List UInt8}{n m:Nat}(hs:l.drop n=s)(h:rU s=some (2,m))(he:(dF (s.take m)).2.2.2=0):bQ (TV 2 n (s.take m) (dF (s.take m)).1 (dF (s.take m)).2.1 (dF (s.take m)).2.2.1)=pF l n:=by
 unfold pF rM valOf fP;rw[hs,h];simp[he]
theorem b2i{l s:List UInt8}{n m:Nat}(hs:l.drop n=s)(h:rU s=some (2,m))(he:¬(dF (s.take m)).2.2.2=0):lK [{v:= .iface 47 (.int .i64 250),recovered:=false}]=pF l n:=by
 unfold pF rM valOf fP;rw[hs,h];simp[he]
theorem jC(w:World)(b:Nat)(x0 x1 x2 x3 x4 x5 y0 y1 y2 y3 y4 y5:Value)(t:TypeId)(h:w.heap[b]?=some (.cells #[x0,x1,x2,x3,x4,x5] t (0,0))):
  ((((((w.setCell ⟨b,0,none⟩ y0).setCell ⟨b,1,none⟩ y1).setCell ⟨b,2,none⟩ y2).setCell ⟨b,3,none⟩ y3).setCell ⟨b,4,none⟩ y4).setCell ⟨b,5,none⟩ y5).heap[b]?=some (.cells #[y0,y1,y2,y3,y4,y5] t (0,0)):=by
 simp[dX,dC,h]
theorem nP{w W:World}{b:Nat}(h:Bl w W)(hb:w.heap.size<=b)(y0 y1 y2 y3 y4 y5:Value):
  Bl w ((((((W.setCell ⟨b,0,none⟩ y0).setCell ⟨b,1,none⟩ y1).setCell ⟨b,2,none⟩ y2).setCell ⟨b,3,none⟩ y3).setCell ⟨b,4,none⟩ y4).setCell ⟨b,5,none⟩ y5):=
 (((((h.set hb _).set hb _).set hb _).set hb _).set hb _).set hb _
theorem kJ{W:World}{b:Nat}{x0 x1 x2 x3 x4 x5:Value}{t:TypeId}(h:W.heap[b]?=some (.cells #[x0,x1,x2,x3,x4,x5] t (0,0))):
  (W.cell? ⟨b,0,none⟩=some x0/\W.cell? ⟨b,1,none⟩=some x1/\W.cell? ⟨b,2,none⟩=some x2/\W.cell? ⟨b,3,none⟩=some x3/\W.cell? ⟨b,4,none⟩=some x4/\W.cell? ⟨b,5,none⟩=some x5)/\
  (W.frozen? ⟨b,0,none⟩=false/\W.frozen? ⟨b,1,none⟩=false/\W.frozen? ⟨b,2,none⟩=false/\W.frozen? ⟨b,3,none⟩=false/\W.frozen? ⟨b,4,none⟩=false/\W.frozen? ⟨b,5,none⟩=false):=
 ⟨⟨by rw[aG h];rfl,by rw[aG h];rfl,by rw[aG h];rfl,by rw[aG h];rfl,by rw[aG h];rfl,by rw[aG h];rfl⟩,
  ⟨aJ h 0,aJ h 1,aJ h 2,aJ h 3,aJ h 4,aJ h 5⟩⟩
def b0y(l:List UInt8)(n:Nat)(w:World)(e:Ending)(w':World):Prop:=e=pF l n/\Bl w w'
theorem a9g{a:Act}{W:World}{b:Nat}{k p x y:Int}{t z:List UInt8}{l:List UInt8}{n:Nat}{w:World}(h2:a.tmps[4]?=some (.pointer (some ⟨b,0,none⟩)))(hd:a.defers=[])
  (hW:W.heap[b]?=some (.cells #[.int .i64 k,.int .i64 p,S t,.int .i64 x,.int .i64 y,S z] 72 (0,0))) (hE:bQ (TV k p t x y z)=pF l n) (hb:Bl w W):bodyPost prog Tryz.f130 (b0y l n w) .ret a W:=by
 obtain⟨⟨q0,q1,q2,q3,q4,q5⟩,-⟩:=kJ hW;obtain⟨t,d⟩:=a;refine bodyPost_ret (v:=TV k p _ x y z) ?_ hd ⟨hE,hb⟩;simp[results,results130,go_sem,q0,q1,q2,q3,q4,q5,h2]
theorem b8t(l:List UInt8)(n:Nat)(hn:n<l.length)(hl:l.length<=10000)(w:World)(hG:nD w):eg 130 #[S l,.int .i64 n] w (b0y l n w):=by
 have HG:=aB hG;clear hG;have htail:=wU l n;go_enter func130,ntmps130;go_wp2_with fail;clear htail;generalize hs:l.drop n=s at *;have hsl:1<=s.length/\s.length<=10000:=(by rw[<-hs];simp;omega);have HSl:=aB hs;clear hs;go_loopw [6] (fun i wr=>∃k:Nat,1<=k/\k<=4/\i= .int .i64 k/\Hid (Tried s k)/\Bl w wr/\wr.heap[w.heap.size]?=some (.cells #[.int .i64 0,.int .i64 0,S [],.int .i64 0,.int .i64 0,S []] 72 (0,0))) (fun i _=>4-(intOf i).toNat)
 case atStart=>exact⟨1,by omega,by omega,rfl,⟨by omega,by omega,fun j h1 h2=>by omega⟩,(Bl.refl w).alloc _,aN w _⟩
 case round=>
  obtain⟨k,hk1,hk4,rfl,HT,hB,hA⟩:=hrel;by_cases hk:k<4
  ·have hlook:(Instr.lookup 224 (.map (some wr.heap.size)) (.int .i64 (k:Int)) false).run prog (wr.alloc (.map c4z 3))= .ok (.func (.func (a2q k)) #[] #[]) (wr.alloc (.map c4z 3)):=
    a8b (aN wr (.map c4z 3)) aE aE
   have hen:=a3u k;go_wp2_with fail
   (with_reducible refine(a7k _).mono ?_)
   rintro e w1 ⟨rfl,rfl⟩;go_wp2_with fail
   (with_reducible refine(b3f k s hsl.1 aE aE _).mono ?_)
   rintro e w2 ⟨rfl,hb2⟩;have hwr:w.heap.size<wr.heap.size:=(aC.1 hA).1;have hb3:Bl wr w2:=((Bl.refl wr).alloc _).call hb2;have hA2:=(hb3.block _ hwr).trans hA;have hB2:=hB.call hb3;have hG2:=HG.o.bl hB2;have HG2:=aB hG2;clear hlook hen hb2 hb3 hA hB hG2;cases hbl:c4y k s with
   |none=>exact⟨rfl,a0f HSl.o (HT.o.bad hsl.1 hk hbl),hB2⟩
   |some m=>
    simp only[b7b];by_cases hm0:m=0
    ·subst hm0;have HN:=aB (HT.o.next hk hbl);clear hbl;go_wp2;go_roundw
     case rel=>exact⟨k+1,by omega,by omega,by go_num,HN.o,hB2,hA2⟩
     case measure=>simp[intOf];omega
    ·have hmb:((m:Int)==0)=false:=by simpa using hm0
     have hcut:rU s=some ((k:Int),m):=by
      obtain⟨j,rfl⟩:∃j,m=j+1:=⟨m-1,by omega⟩
      exact HT.o.hit hsl.1 hk hbl
     have hml:=(a3y hcut).2.1;have HCut:=aB hcut;clear hbl hcut hm0;have hhead:=b0o s m;have hz2:w.heap.size<w2.heap.size:=(aC.1 hA2).1;by_cases hk2:k=2
     ·subst hk2;have hBt:Bl w2 (w2.alloc (.cells #[.int .i64 2,.int .i64 (n:Int),S (s.take m),.int .i64 0,.int .i64 0,S []] 72)):=(Bl.refl w2).alloc _;have hG3:=HG2.o.bl hBt;have hT3:=aN w2 (.cells #[.int .i64 2,.int .i64 (n:Int),S (s.take m),.int .i64 0,.int .i64 0,S []] 72);have hlt3:(s.take m).length<=10000:=ak;go_wp2_with fail
      (with_reducible refine(b7x (s.take m) hlt3 _ hG3).mono ?_)
      rintro e w3 ⟨rfl,hb3⟩;have hT4:=(hb3.block _ (aC.1 hT3).1).trans hT3;have hbt:=hBt.call hb3;have hA4:=(hbt.block _ hz2).trans hA2;have hB4:=hB2.call hbt;clear hT3 hb3 hBt hbt hG3 hA2 hB2;have hne:w2.heap.size≠w.heap.size:=aE;generalize w2.heap.size=b8 at *;have HV:Hid ((dF (s.take m)).2.2.2=0->bQ (TV 2 n (s.take m) (dF (s.take m)).1 (dF (s.take m)).2.1 (dF (s.take m)).2.2.1)=pF l n):=a5q HSl.o HCut.o;have HX:Hid (¬(dF (s.take m)).2.2.2=0->lK [{v:= .iface 47 (.int .i64 250),recovered:=false}]=pF l n):=b2i HSl.o HCut.o;generalize dF (s.take m)=pv at *;obtain⟨p1,p2,p3,pe⟩:=pv;simp only at HV HX⊢;by_cases hpe:pe=0
      ·subst hpe;have HV2:=aB (HV.o rfl);clear HV HX;obtain⟨⟨c0,c1,c2,c3,c4,c5⟩,⟨f0,f1,f2,f3,f4,f5⟩⟩:=kJ hA4;obtain⟨⟨d0,d1,d2,d3,d4,d5⟩,⟨g0,g1,g2,g3,g4,g5⟩⟩:=kJ hT4;have hlt8:b8<w3.heap.size:=(aC.1 hT4).1;have hltA:w.heap.size<w3.heap.size:=aE;go_wp2_with (first |(go_at_call 128;(with_reducible refine(rG _ _).mono ?_);rintro e w' ⟨rfl,rfl⟩))
       clear c0 c1 c2 c3 c4 c5 f0 f1 f2 f3 f4 f5 d0 d1 d2 d3 d4 d5 g0 g1 g2 g3 g4 g5;have hA5:(((w3.setCell ⟨b8,3,none⟩ (.int .i64 p1)).setCell ⟨b8,4,none⟩ (.int .i64 p2)).setCell ⟨b8,5,none⟩ (.string ⟨p3.toArray⟩)).heap[w.heap.size]?=_:=
        (aM _ ⟨b8,5,none⟩ _ _ ak).trans ((aM _ ⟨b8,4,none⟩ _ _ ak).trans ((aM _ ⟨b8,3,none⟩ _ _ ak).trans hA4))
       have hB5:Bl w (((w3.setCell ⟨b8,3,none⟩ (.int .i64 p1)).setCell ⟨b8,4,none⟩ (.int .i64 p2)).setCell ⟨b8,5,none⟩ (.string ⟨p3.toArray⟩)):=((hB4.set ak _).set ak _).set ak _;generalize ((w3.setCell ⟨b8,3,none⟩ (.int .i64 p1)).setCell ⟨b8,4,none⟩ (.int .i64 p2)).setCell ⟨b8,5,none⟩ (.string ⟨p3.toArray⟩)=W5 at *;have hS6:=jC W5 w.heap.size _ _ _ _ _ _ (.int .i64 2) (.int .i64 (n:Int)) (.string ⟨(s.take m).toArray⟩) (.int .i64 p1) (.int .i64 p2) (.string ⟨p3.toArray⟩) 72 hA5;have hB6:=nP hB5 (aH w.heap.size) (.int .i64 2) (.int .i64 (n:Int)) (.string ⟨(s.take m).toArray⟩) (.int .i64 p1) (.int .i64 p2) (.string ⟨p3.toArray⟩);generalize (((((W5.setCell ⟨w.heap.size,0,none⟩ (.int .i64 2)).setCell ⟨w.heap.size,1,none⟩ (.int .i64 (n:Int))).setCell ⟨w.heap.size,2,none⟩ (.string ⟨(s.take m).toArray⟩)).setCell ⟨w.heap.size,3,none⟩ (.int .i64 p1)).setCell ⟨w.heap.size,4,none⟩ (.int .i64 p2)).setCell ⟨w.heap.size,5,none⟩ (.string ⟨p3.toArray⟩)=W6 at *;exact a9g (b:=w.heap.size) rfl rfl ((aW W6 _ (aC.1 hS6).1).trans hS6) HV2.o (hB6.alloc _)
      ·have hpb:(pe==0)=false:=by simpa using hpe
       have HX2:=aB (HX.o hpe);clear HV HX;go_wp2_with (first |(go_at_call 128;(with_reducible refine(zA _ _).mono ?_);rintro e w' ⟨rfl,rfl⟩))
       exact⟨rfl,HX2.o,hB4.alloc _⟩
     ·have hkb:((k:Int)==2)=false:=by simp;omega
      have HK2:Hid ((k:Int)≠2):=(by show(k:Int)≠2;omega);clear hk2;obtain⟨⟨c0,c1,c2,c3,c4,c5⟩,⟨f0,f1,f2,f3,f4,f5⟩⟩:=kJ hA2;go_wp2_with fail;have hS6:=jC w2 w.heap.size _ _ _ _ _ _ (.int .i64 (k:Int)) (.int .i64 (n:Int)) (.string ⟨(s.take m).toArray⟩) (.int .i64 0) (.int .i64 0) (S []) 72 hA2;have hB6:=nP hB2 (aH w.heap.size) (.int .i64 (k:Int)) (.int .i64 (n:Int)) (.string ⟨(s.take m).toArray⟩) (.int .i64 0) (.int .i64 0) (S []);generalize (((((w2.setCell ⟨w.heap.size,0,none⟩ (.int .i64 (k:Int))).setCell ⟨w.heap.size,1,none⟩ (.int .i64 (n:Int))).setCell ⟨w.heap.size,2,none⟩ (.string ⟨(s.take m).toArray⟩)).setCell ⟨w.heap.size,3,none⟩ (.int .i64 0)).setCell ⟨w.heap.size,4,none⟩ (.int .i64 0)).setCell ⟨w.heap.size,5,none⟩ (S [])=W6 at *;exact a9g (b:=w.heap.size) rfl rfl ((aW W6 _ (aC.1 hS6).1).trans hS6) (a5r HSl.o HCut.o HK2.o) (hB6.alloc _)
  ·obtain rfl:k=4:=by omega
   go_wp2;exact⟨rfl,a0f HSl.o (HT.o.all hsl.1),hB⟩
end
section
theorem a4w(p:Addr)(w:World):
  CallsD prog 127 #[.pointer (some p)] .returning w fun e u' w'=>e= .returned (.tuple #[])/\u'= .returning/\w=w':=by
 refine callsD_of_wpS func127 rfl fun c₀ cs hu=>?_;apply wpS_seq;apply wpS_region;simp[wpOpsS,go_sem,recoverD,hu,ntmps127,Exit.thenS];refine wpS_of_wp ?_;go_wp2;cases c₀
 simp_all [bodyPostS,results,results127]
theorem wL(p:Addr)(x n:Int)(w:World)(hc:w.cell? p=some (.int .i64 x))(hz:w.frozen? p=false):
  CallsD prog 127 #[.pointer (some p)] (.panicking [{v:= .iface 47 (.int .i64 n),recovered:=false}]) w fun e u' w'=>
   e= .returned (.tuple #[])/\u'= .panicking [{v:= .iface 47 (.int .i64 n),recovered:=true}]/\w'=w.setCell p (.int .i64 n):=by
 refine callsD_of_wpS func127 rfl fun c₀ cs hu=>?_;apply wpS_seq;apply wpS_region;simp[wpOpsS,go_sem,recoverD,hu,ntmps127,Exit.thenS];refine wpS_of_wp ?_;have hta:∀w,(Instr.typeAssert (.iface 47 (.int .i64 n)) 20 47 false).run prog w= .ok (.int .i64 n) w:=fun _=>af;rw[show ∀a x:Value,#[a]++(((kD 9 undef).setIfInBounds 2 x).setIfInBounds 1 x)= #[a,undef,x,x,undef,undef,undef,undef,undef,undef] from fun _ _=>rfl];go_wp2_with fail;cases c₀
 simp_all [bodyPostS,results,results127]
def iT(x:Tok):List Value:=[.int .i64 x.k,.int .i64 x.pos,S x.t,.int .i64 x.v.1,.int .i64 x.v.2.1,S x.v.2.2]
def rowOf(l:List Tok):List Value:=l.flatMap iT
theorem uS(l:List Tok)(x:Tok):rowOf (l++[x])=rowOf l++iT x:=by simp[rowOf]
theorem b6o:(prog.info? 72).map (fun i=>(i.zero,i.size,i.bytes))=some (some (.agg #[.int .i64 0,.int .i64 0,S [],.int .i64 0,.int .i64 0,S []]),6,64):=by kernel_rfl
theorem gY{W W':World}(hb:Bl W W'){base:Nat}{e:TypeId}{size n:Nat}{v:Value}{xs:List Value}(h:W.ownsRow base e size v n xs):W'.ownsRow base e size v n xs:=by
 refine⟨h.1,?_⟩;rcases h.2 with h0|⟨g,cap,cur,hv,hg,hh,r⟩
 ·exact .inl h0
 ·exact .inr ⟨g,cap,cur,hv,hg,(hb.block g (aC.1 hh).1).trans hh,r⟩
theorem nG{W:World}{base:Nat}{e:TypeId}{size:Nat}{v:Value}{k:Nat}{xs:List Value}(h:W.ownsRow base e size v (k+1) xs):∃g cap,v= .slice (some ⟨g,0,none⟩) (k+1) cap:=by
 rcases h.2 with⟨_,h0⟩|⟨g,cap,_,rfl,_⟩
 ·omega
 ·exact⟨g,cap,rfl⟩
def eT(N:Nat):Tok:=⟨4,N,[],(0,0,[])⟩
def jQ(l:List UInt8):Option (List Tok):=toks fP l.length l
def bY(l:List UInt8):Int:=if 4000<l.length then 3 else if jQ l=none then 250 else 0
def a7a(l:List UInt8)(k:Nat)(acc:List Tok):Prop:=k<=l.length/\acc.length<=k/\bX false (l.drop k)=l.drop k/\jQ l=(toks fP l.length (l.drop k)).map (acc++·)
theorem zT(l:List UInt8):l.drop (l.length-(bX false l).length)=bX false l:=(xW false l).symm
theorem a7a.start(l:List UInt8):a7a l (l.length-(bX false l).length) []:=by
 refine⟨by omega,by simp,by rw[zT,pM],?_⟩;rw[zT,rF l.length (bX false l) l (pM _ _)];unfold jQ;cases toks fP l.length l<;>simp
theorem a7a.bad{l:List UInt8}{k:Nat}{acc:List Tok}(h:a7a l k acc)(hk:k<l.length)(h1:rM fP (l.drop k)=none):jQ l=none:=by
 rw[h.2.2.2,mH,h.2.2.1,if_neg ak,h1];rfl
theorem a7a.done{l:List UInt8}{acc:List Tok}(h:a7a l l.length acc):jQ l=some acc:=by
 rw[h.2.2.2,dO,pI];simp
def a3b(l:List UInt8)(k:Nat)(x:Int×Nat×(Int×Int×List UInt8)):Tok:=⟨x.1,k,(l.drop k).take x.2.1,x.2.2⟩
theorem a7a.next{l:List UInt8}{k:Nat}{acc:List Tok}(h:a7a l k acc)(hk:k<l.length){x:Int×Nat×(Int×Int×List UInt8)}(h1:rM fP (l.drop k)=some x):
  a7a l (k+x.2.1+((l.drop (k+x.2.1)).length-(bX false (l.drop (k+x.2.1))).length)) (acc++[a3b l k x]):=by
 have hle:=nN h1;have hkl:=hle.2.1;simp at hkl;have e1:l.drop (k+x.2.1+((l.drop (k+x.2.1)).length-(bX false (l.drop (k+x.2.1))).length))=bX false (l.drop (k+x.2.1)):=by
  rw[<-iI,zT]
 have hsl:=lT false (l.drop (k+x.2.1));refine⟨by simp at hsl⊢;omega,by have:=h.2.1;simp;omega,by rw[e1,pM],?_⟩;rw[e1,rF l.length (bX false (l.drop (k+x.2.1))) (l.drop (k+x.2.1)) (pM _ _),h.2.2.2,mH,h.2.2.1,if_neg ak,h1];simp only[bU,iI];have e2:l.length-(l.drop k).length=k:=ak;rw[e2];cases toks fP l.length (l.drop (k+x.2.1))<;>simp[a3b]
def vD(l:List UInt8)(w:World)(e:Ending)(w':World):Prop:=
 ∃v,e= .returned (.tuple #[v,.int .i64 (bY l)])/\Bl w w'/\(∀ts,bY l=0->jQ l=some ts->w'.ownsRow w.heap.size 72 6 v (ts.length+1) (rowOf (ts++[eT l.length])))
theorem b1d(l:List UInt8)(h:4000<l.length)(hm:l.length<=9223372036854775807)(w:World):eg 88 #[S l] w (vD l w):=by
 have HE:Hid (bY l=3):=(by show bY l=3;unfold bY;rw[if_pos h]);have hb4:decide ((l.length:Int)<=4000)=false:=by simp;omega
 go_enter_defers func88,ntmps88
 go_wp2_with (first |(go_at_call 128;(with_reducible refine(zA _ _).mono ?_);rintro e w' ⟨rfl,rfl⟩))
 refine leaves_cons (f:=127) (args:= #[.pointer (some ⟨w.heap.size,0,none⟩)]) aa an ?_;have hA:=aN w (.cells #[.int .i64 0] 47);have c0:(w.alloc (.cells #[.int .i64 0] 47)).cell? ⟨w.heap.size,0,none⟩=some (.int .i64 0):=(by rw[aG hA];rfl);refine(wL ⟨w.heap.size,0,none⟩ 0 3 _ c0 (aJ hA 0)).mono ?_;rintro e u' w'' ⟨rfl,rfl,rfl⟩;have c1:=eF (u:= .int .i64 3) c0;refine⟨.tuple #[.slice none 0 0,.int .i64 3],?_,_,by rw[HE.o],((Bl.refl w).alloc _).set aa _,fun ts h0=>by rw[HE.o] at h0;cases h0⟩;simp[results,results88,go_sem]
theorem b4f(l:List UInt8)(hl:l.length<=4000)(w:World)(hG:nD w):eg 88 #[S l] w (vD l w):=by
 have HG:=aB hG;clear hG;have hb4:decide ((l.length:Int)<=4000)=true:=by simp;omega
 go_enter_defers func88,ntmps88
 go_wp2_with (first |(go_at_call 128;(with_reducible refine(rG _ _).mono ?_);rintro e w' ⟨rfl,rfl⟩))
 (with_reducible refine(a4q l aE _).mono ?_)
 rintro e w1 ⟨rfl,hb1⟩;have hA1:w1.heap[w.heap.size]?=some (.cells #[.int .i64 0] 47 (0,0)):=(hb1.block _ aa).trans (aN w _);have hB1:Bl w w1:=((Bl.refl w).alloc _).call hb1;have hst:=a7a.start l;have hk0:=hst.1;generalize l.length-(bX false l).length=k0 at *;have HST:=aB hst;clear hst hb1;go_wp2_with fail;go_loopw [2,4] (fun v i wr=>∃(k:Nat) (acc:List Tok),k<=l.length/\i= .int .i64 k/\Hid (a7a l k acc)/\Bl w wr/\wr.heap[w.heap.size]?=some (.cells #[.int .i64 0] 47 (0,0))/\wr.ownsRow (w.heap.size+1) 72 6 v acc.length (rowOf acc)) (fun _ i _=>l.length-(intOf i).toNat)
 case atStart=>exact⟨k0,[],hk0,rfl,HST.o,hB1,hA1,⟨rfl,.inl ⟨rfl,rfl⟩⟩⟩
 case round=>
  obtain⟨k,acc,hk,rfl,HR,hB,hA,hown⟩:=hrel;have hwr:w.heap.size<wr.heap.size:=(aC.1 hA).1;have hacc:=HR.o.2.1;obtain⟨i0,hi,hz0,hz1,hz2⟩:=info_parts b6o;by_cases hlt:k<l.length
  ·go_wp2_with fail
   (with_reducible refine(b8t l k hlt aE _ (HG.o.bl hB)).mono ?_)
   rintro e w2 ⟨rfl,hb2⟩;have hA2:=(hb2.block _ hwr).trans hA;have hB2:=hB.call hb2;have hG2:=HG.o.bl hB2;have HG2:=aB hG2;clear hG2;cases ho:rM fP (l.drop k) with
   |none=>
    have HE:Hid (bY l=250):=(by show bY l=250;unfold bY;rw[if_neg aE,if_pos (HR.o.bad hlt ho)]);have c0:w2.cell? ⟨w.heap.size,0,none⟩=some (.int .i64 0):=(by rw[aG hA2];rfl);have f0:=aJ hA2 0;rw[show pF l k= .panicked [{v:= .iface 47 (.int .i64 250),recovered:=false}] by unfold pF;rw[ho]];refine leaves_cons (f:=127) (args:= #[.pointer (some ⟨w.heap.size,0,none⟩)]) aa an ?_;refine(wL ⟨w.heap.size,0,none⟩ 0 250 _ c0 f0).mono ?_;rintro e u' w'' ⟨rfl,rfl,rfl⟩;have c1:=eF (u:= .int .i64 250) c0;refine⟨.tuple #[u2,.int .i64 250],?_,_,by rw[HE.o],hB2.set aa _,fun ts h0=>by rw[HE.o] at h0;cases h0⟩;simp[results,results88,go_sem,c1]
   |some x=>
    have hle:=nN ho;have hlx:k+x.2.1<=l.length:=(by have:=hle.2.1;simp at this;omega);have HN:=aB (HR.o.next hlt ho);rw[show pF l k= .returned (TV x.1 k ((l.drop k).take x.2.1) x.2.2.1 x.2.2.2.1 x.2.2.2.2) by unfold pF;rw[ho]];have hown2:=gY hb2 hown;clear hown ho hb2 hA hB;have hln:((l.drop k).take x.2.1).length=x.2.1:=(by have:=hle.2.1;simp at this⊢;omega);have HLN:=aB hln;clear hln;obtain⟨x1,m,v1,v2,v3⟩:=x;simp only at HN HLN hlx hle⊢;generalize htx:(l.drop k).take m=tx at *;have HTX:=aB htx;clear htx;have hz2':w.heap.size<w2.heap.size:=(aC.1 hA2).1;have hap:=iG hown2 (k:=w.heap.size) aE;go_wp2_with (at_builtin;refine wpList_append_own _ rfl _ _ 110 rfl (w.heap.size+1) 72 i0 (.agg #[.int .i64 0,.int .i64 0,S [],.int .i64 0,.int .i64 0,S []]) 6 64 underlying110 hi hz0 hz1 hz2 rfl ae _ _ _ rfl ((hown2.alloc _).alloc _) ⟨w2.heap.size+1,0,none⟩ 1 1 [.int .i64 x1,.int .i64 (k:Int),S tx,.int .i64 v1,.int .i64 v2,S v3] rfl rfl ?c1 ?c2 ?c3 ?c4 ?c5 ?_)
    case c1=>
     intro j u hj
     match j,hj with
     |0,hj=>simp at hj;subst hj;simp[dY,go_sem]
     |1,hj=>simp at hj;subst hj;simp[dY,go_sem]
     |2,hj=>simp at hj;subst hj;simp[dY,go_sem]
     |3,hj=>simp at hj;subst hj;simp[dY,go_sem]
     |4,hj=>simp at hj;subst hj;simp[dY,go_sem]
     |5,hj=>simp at hj;subst hj;simp[dY,go_sem]
    case c2=>intro u hu;simp at hu;rcases hu with rfl|rfl|rfl|rfl|rfl|rfl<;>rfl
    case c3=>unfold maxLen;omega
    case c4=>omega
    case c5=>simp;omega
    intro v' w4 hown4 hgrow _;have hne2:u2.ownBlock≠some w2.heap.size:=fun e=>(by have:=(hown2.lt _ e).2;omega);have hb4':Bl w w4:=iL ((hB2.alloc _).alloc _) hgrow (by have:=hB2.size;simp;omega) (fun j hj=>by have:=(hown2.lt j hj).1;omega);have hA4:w4.heap[w.heap.size]?=some (.cells #[.int .i64 0] 47 (0,0)):=by
     rw[hgrow.block _ ak (fun e=>hap e.symm),aW _ _ ak,aW _ _ hz2'];exact hA2
    have hT4:w4.heap[w2.heap.size]?=some (.cells #[.int .i64 x1,.int .i64 (k:Int),S tx,.int .i64 v1,.int .i64 v2,S v3] 72 (0,0)):=by
     rw[hgrow.block _ ak (fun e=>hne2 e.symm),aW _ _ aa,aN]
    have t2:w4.cell? ⟨w2.heap.size,2,none⟩=some (S tx):=(by rw[aG hT4];rfl);have hG4:=HG.o.bl hb4';have htl:=HLN.o;have htail:=wU l (k+m);have hrow:rowOf acc++[.int .i64 x1,.int .i64 (k:Int),S tx,.int .i64 v1,.int .i64 v2,S v3]=rowOf (acc++[a3b l k (x1,m,v1,v2,v3)]):=by
     rw[uS];simp[a3b,iT,HTX.o]
    rw[hrow] at hown4;have HO:=aB hown4;obtain⟨g4,cap4,rfl⟩:=nG hown4;clear hown4 hgrow hrow hA2 hB2 hown2 hap hne2 hT4;have hlt5:(⟨tx.toArray⟩:ByteArray).size=m:=(by rw[size_of_list];exact htl);go_wp2_with fail
    (with_reducible refine(a4q (l.drop (k+m)) ak _).mono ?_)
    rintro e w5 ⟨rfl,hb5⟩;have hw4:w.heap.size<w4.heap.size:=(aC.1 hA4).1;have hA5:=(hb5.block _ hw4).trans hA4;have hO5:=gY hb5 HO.o;have hk5:=HN.o.1;generalize (l.drop (k+m)).length-(bX false (l.drop (k+m))).length=d at *;clear htail hlt5 htl t2 hG4 hA4;go_wp2;go_roundw
    case rel=>exact⟨k+m+d,acc++[a3b l k (x1,m,v1,v2,v3)],hk5,by go_num,HN.o,hb4'.call hb5,hA5,by simpa using hO5⟩
    case measure=>simp[intOf];omega
  ·obtain rfl:k=l.length:=by omega
   have hdone:=HR.o.done;have HD:=aB hdone;have HE:Hid (bY l=0):=(by show bY l=0;unfold bY;rw[if_neg aE,if_neg (by rw[hdone];simp)]);clear hdone;have hap:=iG hown (k:=w.heap.size) aE;go_wp2_with (at_builtin;refine wpList_append_own _ rfl _ _ 110 rfl (w.heap.size+1) 72 i0 (.agg #[.int .i64 0,.int .i64 0,S [],.int .i64 0,.int .i64 0,S []]) 6 64 underlying110 hi hz0 hz1 hz2 rfl ae _ _ _ rfl (hown.alloc _) ⟨wr.heap.size,0,none⟩ 1 1 [.int .i64 4,.int .i64 (l.length:Int),S [],.int .i64 0,.int .i64 0,S []] rfl rfl ?d1 ?d2 ?d3 ?d4 ?d5 ?_)
   case d1=>
    intro j u hj
    match j,hj with
    |0,hj=>simp at hj;subst hj;simp[dY,go_sem]
    |1,hj=>simp at hj;subst hj;simp[dY,go_sem]
    |2,hj=>simp at hj;subst hj;simp[dY,go_sem]
    |3,hj=>simp at hj;subst hj;simp[dY,go_sem]
    |4,hj=>simp at hj;subst hj;simp[dY,go_sem]
    |5,hj=>simp at hj;subst hj;simp[dY,go_sem]
   case d2=>intro u hu;simp at hu;rcases hu with rfl|rfl|rfl|rfl|rfl<;>rfl
   case d3=>unfold maxLen;omega
   case d4=>omega
   case d5=>simp;omega
   intro v' w4 hown4 hgrow _;have hb4':Bl w w4:=iL (hB.alloc _) hgrow (by have:=hB.size;simp;omega) (fun j hj=>by have:=(hown.lt j hj).1;omega);have hA4:w4.heap[w.heap.size]?=some (.cells #[.int .i64 0] 47 (0,0)):=by
    rw[hgrow.block _ ak (fun e=>hap e.symm),aW _ _ hwr];exact hA
   have hrow:rowOf acc++[.int .i64 4,.int .i64 (l.length:Int),S [],.int .i64 0,.int .i64 0,S []]=rowOf (acc++[eT l.length]):=by
    rw[uS];simp[eT,iT]
   rw[hrow] at hown4;have HO:=aB hown4;obtain⟨g4,cap4,rfl⟩:=nG hown4;have hg4:=iG hown4 (k:=w.heap.size) aE;have HG4:=aB hg4;clear hown4 hgrow hrow hA hB hown hap hg4;have c0:w4.cell? ⟨w.heap.size,0,none⟩=some (.int .i64 0):=(by rw[aG hA4];rfl);have f0:=aJ hA4 0;go_wp2_with fail;refine leaves_cons (f:=127) (args:= #[.pointer (some ⟨w.heap.size,0,none⟩)]) aa an ?_;refine(a4w _ _).mono ?_;rintro e u' w'' ⟨rfl,rfl,rfl⟩;have c1:=eF (u:= .int .i64 0) c0;refine⟨.tuple #[.slice (some ⟨g4,0,none⟩) (acc.length+1) cap4,.int .i64 0],?_,_,by rw[HE.o],hb4'.set aa _,fun ts _ h1=>?_⟩
   ·simp[results,results88,go_sem,c1]
   ·rw[HD.o] at h1;injection h1 with h1;subst h1;refine a0e (base:=w.heap.size+1) (HO.o.kept (row:=some w.heap.size) ⟨rfl,rfl,rfl,by simp[dX],fun k _ hk=>fA _ _ _ _ (fun e=>hk (by simp[e]))⟩ (.inr HG4.o)) aE
def c4g(l:List UInt8)(w:World)(e:Ending)(w':World):Prop:=
 (∃v,e= .returned (.tuple #[v,.int .i64 (bY l)])/\Bl w w'/\(bY l≠0->v= .slice none 0 0)/\(∀ts,bY l=0->jQ l=some ts->w'.ownsRow w.heap.size 72 6 v (ts.length+1) (rowOf (ts++[eT l.length]))))
theorem b4g(l:List UInt8)(hm:l.length<=9223372036854775807)(w:World)(hG:nD w):eg 88 #[S l] w (vD l w):=by
 by_cases h:l.length<=4000
 ·exact b4f l h w hG
 ·exact b1d l aE hm w
theorem a3d(l:List UInt8)(hm:l.length<=9223372036854775807)(w:World)(hG:nD w):eg 47 #[S l] w (c4g l w):=by
 go_enter func47,ntmps47;go_wp2_with fail;refine(b4g l hm _ hG).mono ?_;rintro e w1 ⟨v,rfl,hb,ho⟩;have HO:=aB ho;clear ho;by_cases h0:bY l=0
 ·have HZ:=aB h0;rw[h0];clear h0;go_wp2;go_ret2;exact⟨v,by rw[HZ.o];rfl,hb,fun h=>absurd HZ.o h,HO.o⟩
 ·have HZ:=aB h0;have hz:(bY l != 0)=true:=cA;have hz':(bY l==0)=false:=cA;clear h0;go_wp2;go_ret2;exact⟨.slice none 0 0,rfl,hb,fun _=>rfl,fun ts h=>absurd h HZ.o⟩
end
section
def kwL:List (List UInt8):=[[115,101,108,101,99,116],[100,105,115,116,105,110,99,116],[102,114,111,109],[106,111,105,110],[111,110],[119,104,101,114,101],[103,114,111,117,112],[98,121],[104,97,118,105,110,103],[111,114,100,101,114],[97,115,99],[100,101,115,99],[108,105,109,105,116],[97,115],[97,110,100],[111,114],[110,111,116],[105,115],[110,117,108,108],[116,114,117,101],[102,97,108,115,101],[99,114,101,97,116,101],[116,97,98,108,101],[105,110,100,101,120],[117,110,105,113,117,101],[112,114,105,109,97,114,121],[107,101,121],[99,104,101,99,107],[114,101,102,101,114,101,110,99,101,115],[100,101,108,101,116,101],[117,112,100,97,116,101],[105,110,115,101,114,116],[105,110,116,111],[118,97,108,117,101,115],[115,101,116],[99,97,115,99,97,100,101],[114,101,115,116,114,105,99,116],[100,101,102,97,117,108,116],[118,105,101,119],[119,105,116,104],[99,97,115,99,97,100,101,100],[108,111,99,97,108],[111,112,116,105,111,110],[114,117,108,101],[116,111],[100,111],[105,110,115,116,101,97,100],[100,114,111,112],[109,101,114,103,101],[117,115,105,110,103],[119,104,101,110],[109,97,116,99,104,101,100],[116,104,101,110],[99,111,110,102,108,105,99,116],[110,111,116,104,105,110,103],[114,101,116,117,114,110,105,110,103],[98,101,103,105,110],[99,111,109,109,105,116],[114,111,108,108,98,97,99,107],[115,97,118,101,112,111,105,110,116],[114,101,108,101,97,115,101]]
def kwC:Array Value:= #[.string ⟨#[115,101,108,101,99,116]⟩,.string ⟨#[100,105,115,116,105,110,99,116]⟩,.string ⟨#[102,114,111,109]⟩,.string ⟨#[106,111,105,110]⟩,.string ⟨#[111,110]⟩,.string ⟨#[119,104,101,114,101]⟩,.string ⟨#[103,114,111,117,112]⟩,.string ⟨#[98,121]⟩,.string ⟨#[104,97,118,105,110,103]⟩,.string ⟨#[111,114,100,101,114]⟩,.string ⟨#[97,115,99]⟩,.string ⟨#[100,101,115,99]⟩,.string ⟨#[108,105,109,105,116]⟩,.string ⟨#[97,115]⟩,.string ⟨#[97,110,100]⟩,.string ⟨#[111,114]⟩,.string ⟨#[110,111,116]⟩,.string ⟨#[105,115]⟩,.string ⟨#[110,117,108,108]⟩,.string ⟨#[116,114,117,101]⟩,.string ⟨#[102,97,108,115,101]⟩,.string ⟨#[99,114,101,97,116,101]⟩,.string ⟨#[116,97,98,108,101]⟩,.string ⟨#[105,110,100,101,120]⟩,.string ⟨#[117,110,105,113,117,101]⟩,.string ⟨#[112,114,105,109,97,114,121]⟩,.string ⟨#[107,101,121]⟩,.string ⟨#[99,104,101,99,107]⟩,.string ⟨#[114,101,102,101,114,101,110,99,101,115]⟩,.string ⟨#[100,101,108,101,116,101]⟩,.string ⟨#[117,112,100,97,116,101]⟩,.string ⟨#[105,110,115,101,114,116]⟩,.string ⟨#[105,110,116,111]⟩,.string ⟨#[118,97,108,117,101,115]⟩,.string ⟨#[115,101,116]⟩,.string ⟨#[99,97,115,99,97,100,101]⟩,.string ⟨#[114,101,115,116,114,105,99,116]⟩,.string ⟨#[100,101,102,97,117,108,116]⟩,.string ⟨#[118,105,101,119]⟩,.string ⟨#[119,105,116,104]⟩,.string ⟨#[99,97,115,99,97,100,101,100]⟩,.string ⟨#[108,111,99,97,108]⟩,.string ⟨#[111,112,116,105,111,110]⟩,.string ⟨#[114,117,108,101]⟩,.string ⟨#[116,111]⟩,.string ⟨#[100,111]⟩,.string ⟨#[105,110,115,116,101,97,100]⟩,.string ⟨#[100,114,111,112]⟩,.string ⟨#[109,101,114,103,101]⟩,.string ⟨#[117,115,105,110,103]⟩,.string ⟨#[119,104,101,110]⟩,.string ⟨#[109,97,116,99,104,101,100]⟩,.string ⟨#[116,104,101,110]⟩,.string ⟨#[99,111,110,102,108,105,99,116]⟩,.string ⟨#[110,111,116,104,105,110,103]⟩,.string ⟨#[114,101,116,117,114,110,105,110,103]⟩,.string ⟨#[98,101,103,105,110]⟩,.string ⟨#[99,111,109,109,105,116]⟩,.string ⟨#[114,111,108,108,98,97,99,107]⟩,.string ⟨#[115,97,118,101,112,111,105,110,116]⟩,.string ⟨#[114,101,108,101,97,115,101]⟩]
def kwZ:Array Value:= #[S [],S [],S [],S [],S [],S [],S [],S [],S [],S [],S [],S [],S [],S [],S [],S [],S [],S [],S [],S [],S [],S [],S [],S [],S [],S [],S [],S [],S [],S [],S [],S [],S [],S [],S [],S [],S [],S [],S [],S [],S [],S [],S [],S [],S [],S [],S [],S [],S [],S [],S [],S [],S [],S [],S [],S [],S [],S [],S [],S [],S []]
theorem b0i:(prog.info? 321).map (·.size)=some 61:=by kernel_rfl
theorem a5x(w:World):eg 300 #[] w fun e w'=>e= .returned (.agg kwC)/\w'=w.alloc (.cells kwC 321):=by
 have hst:=fun(w:World)=>run_storeAt_new (P:=prog) w 321 kwZ kwC b0i rfl af;have hzv:∀w,(zeroValue 321).run prog w= .ok (.agg kwZ) w:=fun _=>af;go_enter func300,ntmps300;go_wp2_with (first
  |(refine wpList_build rfl 321 _ rfl af ?_)
  |(refine wpList_store_row rfl 321 (.tmp 0) (.tmp 1) rfl w.heap.size kwC rfl af 321 kwZ (aN w _) b0i rfl af ?_))
 have hW:((w.alloc (.cells kwZ 321)).setRow w.heap.size kwC)=w.alloc (.cells kwC 321):=lD w kwZ kwC 321;refine bodyPost_ret (v:= .agg kwC) (results_cell_row (p:=0) (ty:=321) rfl _ _ w.heap.size 321 kwC (0,0) (.array 61 9) rfl ?_ af rfl b0i) rfl ⟨rfl,hW⟩;exact(congrArg (fun W:World=>W.heap[w.heap.size]?) hW).trans (aN w _)
def kwB(x:List UInt8):Bool:=kwL.contains x
theorem c1w:∀j,j<61->kwC[j]?=some (S (kwL.getD j []))
 |0,_=>rfl
 |1,_=>rfl
 |2,_=>rfl
 |3,_=>rfl
 |4,_=>rfl
 |5,_=>rfl
 |6,_=>rfl
 |7,_=>rfl
 |8,_=>rfl
 |9,_=>rfl
 |10,_=>rfl
 |11,_=>rfl
 |12,_=>rfl
 |13,_=>rfl
 |14,_=>rfl
 |15,_=>rfl
 |16,_=>rfl
 |17,_=>rfl
 |18,_=>rfl
 |19,_=>rfl
 |20,_=>rfl
 |21,_=>rfl
 |22,_=>rfl
 |23,_=>rfl
 |24,_=>rfl
 |25,_=>rfl
 |26,_=>rfl
 |27,_=>rfl
 |28,_=>rfl
 |29,_=>rfl
 |30,_=>rfl
 |31,_=>rfl
 |32,_=>rfl
 |33,_=>rfl
 |34,_=>rfl
 |35,_=>rfl
 |36,_=>rfl
 |37,_=>rfl
 |38,_=>rfl
 |39,_=>rfl
 |40,_=>rfl
 |41,_=>rfl
 |42,_=>rfl
 |43,_=>rfl
 |44,_=>rfl
 |45,_=>rfl
 |46,_=>rfl
 |47,_=>rfl
 |48,_=>rfl
 |49,_=>rfl
 |50,_=>rfl
 |51,_=>rfl
 |52,_=>rfl
 |53,_=>rfl
 |54,_=>rfl
 |55,_=>rfl
 |56,_=>rfl
 |57,_=>rfl
 |58,_=>rfl
 |59,_=>rfl
 |60,_=>rfl
 |n+61,h=>absurd h aE
def kwA:List ByteArray:=kwL.map fun x=>⟨x.toArray⟩
theorem c3m(j:Nat)(h:j<kwA.length):kwC[j]?=some (.string (kwA.getD j ByteArray.empty)):=by
 have h61:j<61:=h;rw[c1w j h61];unfold kwA;have:j<kwL.length:=h61;simp[lY,this]
theorem a6p(x:List UInt8):Lib.containsS (kwA.take 61) ⟨x.toArray⟩=kwB x:=by
 have e:kwA.take 61=kwA:=jS (Nat.le_of_eq rfl);rw[kC,e,Lib.containsS_iff];unfold kwB kwA;simp
theorem a0v(x:List UInt8)(w:World):eg 251 #[S x] w fun e w'=>e= .returned (.bool (kwB x))/\Bl w w':=by
 have HR:=aB (a6p x);have hzv:∀w,(zeroValue 321).run prog w= .ok (.agg kwZ) w:=fun _=>af;go_enter func251,ntmps251;go_wp2_with fail
 (with_reducible refine(a5x _).mono ?_)
 rintro e w1 ⟨rfl,rfl⟩;have HC:Hid (∀j,j<kwA.length->((w.alloc (.cells kwC 321)).alloc (.cells kwC 321)).cell? ⟨w.heap.size+1,0+j,none⟩=some (.string (kwA.getD j ByteArray.empty))):=by
  intro j hj;rw[aG (aV _ _ aa),gD];exact c3m j hj
 go_wp2_with (first
  |(refine wpList_store_row rfl 321 (.tmp 3) (.tmp 4) rfl (w.heap.size+1) kwC rfl rfl 321 kwZ (aV _ _ aa) b0i rfl af ?_))
 have hW:(((w.alloc (.cells kwC 321)).alloc (.cells kwZ 321)).setRow (w.heap.size+1) kwC)=(w.alloc (.cells kwC 321)).alloc (.cells kwC 321):=by
  have:=lD (w.alloc (.cells kwC 321)) kwZ kwC 321;rw[aR] at this;exact this
 rw[hW]
 (with_reducible refine(Tryz.slices_Contains_string (w.heap.size+1) 0 61 61 kwA ⟨x.toArray⟩ _ (Nat.le_of_eq rfl) aE HC.o).mono ?_)
 rintro e w' ⟨rfl,rfl⟩;rw[HR.o];go_wp2;go_ret;exact⟨rfl,((Bl.refl w).alloc _).alloc _⟩
end
section
theorem c1p(l:List Tok)(j:Nat)(h:j<l.length)(i:Nat)(hi:i<6):(rowOf l)[j * 6+i]?=(iT l[j])[i]?:=by
 induction l generalizing j with
 |nil=>simp at h
 |cons a l ih=>
  have e:rowOf (a::l)=iT a++rowOf l:=rfl;have ha:(iT a).length=6:=rfl;rw[e];cases j with
  |zero=>simp only[Nat.zero_mul,gD];rw[List.getElem?_append_left aE];rfl
  |succ j=>
   rw[List.getElem?_append_right aE,show(j+1) * 6+i-(iT a).length=j * 6+i by omega,ih j bb];rfl
def At6(W:World)(g j:Nat)(x:Tok):Prop:=W.cell? ⟨g,j * 6,none⟩=some (.int .i64 x.k)/\W.cell? ⟨g,j * 6+1,none⟩=some (.int .i64 x.pos)/\W.cell? ⟨g,j * 6+2,none⟩=some (S x.t)/\
 W.cell? ⟨g,j * 6+3,none⟩=some (.int .i64 x.v.1)/\W.cell? ⟨g,j * 6+4,none⟩=some (.int .i64 x.v.2.1)/\W.cell? ⟨g,j * 6+5,none⟩=some (S x.v.2.2)
theorem c6e{W:World}{base g cap:Nat}{l:List Tok}(h:W.ownsRow base 72 6 (.slice (some ⟨g,0,none⟩) l.length cap) l.length (rowOf l))(j:Nat)(hj:j<l.length):At6 W g j l[j]:=by
 have c:=fun i (hi:i<6)=>(h.cellAt (j * 6+i) aE).trans (c1p l j hj i hi);exact⟨c 0 aE,c 1 aE,c 2 aE,c 3 aE,c 4 aE,c 5 aE⟩
theorem At6.bl{W W':World}{g j:Nat}{x:Tok}(h:At6 W g j x)(hb:Bl W W'):At6 W' g j x:=
 ⟨hb.cell h.1,hb.cell h.2.1,hb.cell h.2.2.1,hb.cell h.2.2.2.1,hb.cell h.2.2.2.2.1,hb.cell h.2.2.2.2.2⟩
end
section
def Got(w:World)(ts:List Tok)(l:List UInt8)(e:Ending)(w':World):Prop:=∃g cap,e= .returned (.tuple #[.slice (some ⟨g,0,none⟩) (ts.length+1) cap,.int .i64 0])/\Bl w w'/\w.heap.size<=g/\w'.ownsRow w.heap.size 72 6 (.slice (some ⟨g,0,none⟩) (ts.length+1) cap) (ts.length+1) (rowOf (ts++[eT l.length]))
theorem c0z(l:List UInt8)(hl:l.length<=4000)(ts:List Tok)(h:jQ l=some ts)(w:World)(hG:nD w):eg 47 #[S l] w (Got w ts l):=by
 have h0:bY l=0:=(by unfold bY;rw[if_neg aE,h,if_neg aa]);refine(a3d l aE w hG).mono ?_;rintro e w' ⟨v,he,hb,_,ho⟩;have ho':=ho ts h0 h;obtain⟨g,cap,rfl⟩:=nG ho';refine⟨g,cap,by rw[he,h0],hb,?_,ho'⟩;have:=(ho'.lt g rfl).1;exact this
theorem c2b{W:World}{base g cap:Nat}{ts:List Tok}{N:Nat}(h:W.ownsRow base 72 6 (.slice (some ⟨g,0,none⟩) (ts.length+1) cap) (ts.length+1) (rowOf (ts++[eT N]))):
  ∀j (hj:j<(ts++[eT N]).length),At6 W g j (ts++[eT N])[j]:=fun j hj=>by
 have e:ts.length+1=(ts++[eT N]).length:=aa;rw[e] at h;exact c6e h j hj
end
section
def Row(W:World)(g:Nat)(l:List Tok):Prop:=∀j (h:j<l.length),At6 W g j l[j]
theorem Row.bl{W W':World}{g:Nat}{l:List Tok}(h:Row W g l)(hb:Bl W W'):Row W' g l:=fun j hj=>(h j hj).bl hb
theorem At6.block{W W':World}{g j:Nat}{x:Tok}(h:At6 W g j x)(hb:W'.heap[g]?=W.heap[g]?):At6 W' g j x:=by
 have c:∀o v,W.cell? ⟨g,o,none⟩=some v->W'.cell? ⟨g,o,none⟩=some v:=fun o v hv=>(by rw[jV (w:=W) hb];exact hv);exact⟨c _ _ h.1,c _ _ h.2.1,c _ _ h.2.2.1,c _ _ h.2.2.2.1,c _ _ h.2.2.2.2.1,c _ _ h.2.2.2.2.2⟩
theorem Row.block{W W':World}{g:Nat}{l:List Tok}(h:Row W g l)(hb:W'.heap[g]?=W.heap[g]?):Row W' g l:=fun j hj=>(h j hj).block hb
theorem Row.set_other{W:World}{g:Nat}{l:List Tok}(h:Row W g l){p:Addr}(hp:g≠p.block)(v:Value):Row (W.setCell p v) g l:=h.block (fA _ _ _ _ hp)
theorem c3g{W:World}{base:Nat}{e:TypeId}{size g n cap:Nat}{xs:List Value}(h:W.ownsRow base e size (.slice (some ⟨g,0,none⟩) n cap) n xs):n<=cap:=by
 rcases h.2 with⟨h0,_⟩|⟨g',cap',cur,h0,_,_,hn,_⟩
 ·cases h0
 ·injection h0 with _ _ h3;subst h3;exact hn
theorem Row.take{W:World}{g:Nat}{l:List Tok}{x:Tok}(h:Row W g (l++[x])):Row W g l:=fun j hj=>by
 have:=h j ak;rw[mQ hj] at this;exact this
end
section
end
section
theorem indexByte_none:∀(l:List UInt8) (c:UInt8),(∀j,j<l.length->l[j]?≠some c)->dR l c= -1
 |[],c,_=>rfl
 |a::r,c,hn=>by
  have ha:a≠c:=fun e=>hn 0 aa (by simp[e]);have ih:=indexByte_none r c (fun j hj=>by have:=hn (j+1) ak;simpa using this);simp[dR,ha,ih]
end
section
def I64(n:Int):Prop:= -9223372036854775808<=n/\n<=9223372036854775807
theorem c1q(x:Nat)(h:x<=9):(-9223372036854775808+(x:Int)).tdiv 10= -((9223372036854775808-(x:Int)) / 10):=by
 rw[show -9223372036854775808+(x:Int)= -(9223372036854775808-(x:Int)) by omega,Int.neg_tdiv,Int.tdiv_eq_ediv_of_nonneg aE]
theorem under{v m:Nat}(h1:48<=m)(h2:m<=57)(ho:(-9223372036854775808+((m:Int)-48)).tdiv 10<=-(v:Int)):v * 10+(m-48)<=9223372036854775808:=by
 have hq:=c1q (m-48) aE;rw[show((m-48:Nat):Int)=(m:Int)-48 by omega] at hq;rw[hq] at ho;omega
end
section
end
section
end
section
end
end Go.Proofs.YtohlomdapelgeaaGreatDoor
