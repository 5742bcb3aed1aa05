/- Texts LQ KV. -/
import Derived.Test.YtfkekkgfmhcanaaGreatDoorL
import Derived.Test.YtfkekkgfmhcanaaGreatDoorB
import Derived.Test.YtfkekkgfmhcanaaGreatDoorTie
import Derived.Test.YtfkekkgfmhcanaaGreatDoorCards
import Derived.SevenTiedAt
namespace Go.Proofs.YtfkekkgfmhcanaaGreatDoor
open _root_.Go.Proofs.Tryz
open Go.RowKit
open Go.ChangeShapes Go.WideShapes Go.ChangeAt Go.RowKit
open Go.ChangeMaps (open_string shut_string)
open _root_.Go.Act renaming put->aK
open _root_.And renaming intro->bT
open _root_.Array renaming getElem?_eq_some_iff->aC
open _root_.Go.RowKit.Below renaming grown->iL
open _root_.Bool renaming and_eq_true->aQ
open _root_.Go.Lib renaming hid->aB
open _root_.List renaming all_eq_true->jA,getElem?_eq_getElem->aP,setIfInBounds_toArray->aA,set_cons_succ->aF,set_cons_zero->aD
open _root_.Nat renaming le_refl->aH,zero_le->dL
open NoPanic renaming normal->bF
open _root_.Go.World renaming block_lt_of_cell?->bB
set_option maxRecDepth 100000
set_option maxHeartbeats 16000000
section
theorem readQ_few{ts:List Tok}{k k':Nat}{q:Qu}(hT:lC ts)(hk:k<ts.length)(h:d5c ts k= .good k' q):d9u (ts.length+10) q:=by
 unfold d5c at h;obtain⟨k1,q1,h1,h2⟩:=d2u.bind_good h;split at h2
 ·cases h2
 ·injection h2 with _ h2;subst h2;exact e1m hT hk h1
theorem itemsR_few{ts:List Tok}{k k':Nat}{l:List It}(hT:lC ts)(hk:k<ts.length)(h:d7m ts k= .good k' l):(∀i∈l,fC i.x<=ts.length+10)/\l.length<=ts.length:=by
 have:=d6e (P:=fun i:It=>fC i.x<=ts.length+10) (fun k k' x hk h=>e3u hT hk h) _ _ _ _ _ hk (fun x hx=>by cases hx) h;exact⟨this.2.1,by have:=this.2.2;simpa using this⟩
theorem readItems_good{ts:List Tok}{k k':Nat}{l:List It}(h:readItems ts k= .good k' l):d7m ts k= .good k' l/\l.length<=32:=by
 unfold readItems at h;obtain⟨k1,l1,h1,h2⟩:=d2u.bind_good h;split at h2
 ·cases h2
 ·injection h2 with e1 e2;subst e1 e2;exact⟨h1,by omega⟩
theorem items_good{ts:List Tok}{k k1 k':Nat}{l l':List It}{c:Int}(h:d7m ts k= .good k1 l)(h':(c=0/\d7m ts k= .good k' l')\/((c=260\/c=261\/c=270)/\d7m ts k= .bad c/\l'=[])):0=c/\k1=k'/\l=l':=by
 rcases h' with⟨rfl,h'⟩|⟨-,h',-⟩
 ·rw[h] at h';injection h' with e1 e2;exact⟨rfl,e1,e2⟩
 ·rw[h] at h';cases h'
theorem items_bad{ts:List Tok}{k k':Nat}{l':List It}{c c':Int}(h:readItems ts k= .bad c)(hc:c=260\/c=261\/c=270)(h':(c'=0/\d7m ts k= .good k' l')\/((c'=260\/c'=261\/c'=270)/\d7m ts k= .bad c'/\l'=[])):(0=c'/\270=c/\32<l'.length)\/(c=c'/\(c==0)=false):=by
 unfold readItems at h;rcases h' with⟨rfl,h'⟩|⟨-,h',-⟩
 ·rw[h'] at h;simp only[d2u.bind] at h;split at h
  ·injection h with e;exact .inl ⟨rfl,e,by omega⟩
  ·cases h
 ·rw[h'] at h;injection h with e;exact .inr ⟨e.symm,by rcases hc with rfl|rfl|rfl<;>rfl⟩
theorem But.bl'{W A B:World}{b:Nat}(h:Bl W A)(hb:But b A B)(h2:W.heap.size<=b):Bl W B:=iL h hb.grown h.size (fun j hj=>by injection hj with hj;omega)
def ReadE(ts:List Tok)(k:Nat)(q:Qu)(c:Int)(k1:Nat):Prop:=(d5c ts k= .good k1 q/\c=0)\/((c=260\/c=261\/c=270)/\d5c ts k= .bad c/\k1=k/\q=d3z)
theorem ReadE.det{ts:List Tok}{k k1 k2:Nat}{q q':Qu}{c c':Int}(h:ReadE ts k q c k1)(h':ReadE ts k q' c' k2):q'=q/\c'=c/\k2=k1:=by
 rcases h with⟨h1,rfl⟩|⟨-,h1,rfl,rfl⟩<;>rcases h' with⟨h2,rfl⟩|⟨-,h2,rfl,rfl⟩
 ·rw[h1] at h2;injection h2 with e1 e2;exact⟨e2.symm,rfl,e1.symm⟩
 ·rw[h1] at h2;cases h2
 ·rw[h1] at h2;cases h2
 ·rw[h1] at h2;injection h2 with e1;exact⟨rfl,e1.symm,rfl⟩
theorem ReadE.self{ts:List Tok}{k k1:Nat}{q:Qu}{c:Int}(h:ReadE ts k q c k1)(hT:lC ts)(hk:k<ts.length)(hfew:ts.length<=100000):e7b q:=by
 rcases h with⟨h1,-⟩|⟨-,-,-,rfl⟩
 ·exact e6c (readQ_few hT hk h1) aE
 ·exact e6c (e1l (N:=1) (aH _)) aE
theorem d4m.but{p:Nat->Prop}{b:Nat}{A B:World}{q:Qu}{v:Value}(h:d4m p A q v)(hb:But b A B)(hp:∀i,p i->i≠b):d4m p B q v:=by
 obtain⟨si,sj,sw,sg,sh,so,rfl,h⟩:=h;exact⟨_,_,_,_,_,_,rfl,h.but hb hp⟩
theorem e7d.both{bs g cap k:Nat}{ts:List Tok}{W:World}{e:Ending}{w':World}(h:e7d bs g cap ts k W e w'):∃q c k1 ai ni ci aj nj cj aw nw cw ag ng cg ah nh ch ao no co,W.grownBy w' (some bs)/\iV w' bs g cap ts k1/\
  e= .returned (.tuple #[QV q (.slice ai ni ci) (.slice aj nj cj) (.slice aw nw cw) (.slice ag ng cg) (.slice ah nh ch) (.slice ao no co),.int .i64 c])/\d4m (fun b=>W.heap.size<=b) w' q (QV q (.slice ai ni ci) (.slice aj nj cj) (.slice aw nw cw) (.slice ag ng cg) (.slice ah nh ch) (.slice ao no co))/\ReadE ts k q c k1:=by
 obtain⟨hg,⟨k1,q,v,hr,hs,hv,rfl⟩|⟨c,hc,hr,hs,rfl⟩⟩:=h
 ·obtain⟨si,sj,sw,sg,sh,so,rfl,hp⟩:=id hv;obtain⟨ai,ci,aj,cj,aw,cw,ag,cg,ah,ch,ao,co,rfl,rfl,rfl,rfl,rfl,rfl⟩:=hp.slices;exact⟨q,0,k1,_,_,_,_,_,_,_,_,_,_,_,_,_,_,_,_,_,_,hg,hs,rfl,⟨_,_,_,_,_,_,rfl,hp⟩,.inl ⟨hr,rfl⟩⟩
 ·exact⟨d3z,c,k,none,0,0,none,0,0,none,0,0,none,0,0,none,0,0,none,0,0,hg,hs,rfl,d3m _ _,.inr ⟨hc,hr,rfl,rfl⟩⟩
theorem e5u.both{g cap k:Nat}{ts:List Tok}{W:World}{e:Ending}{w':World}(h:e5u g cap ts k W (d5c ts k) e w'):∃q c k1 ai ni ci aj nj cj aw nw cw ag ng cg ah nh ch ao no co,Bl W w'/\k1<ts.length/\
  e= .returned (.tuple #[RS g ts.length cap k1,QV q (.slice ai ni ci) (.slice aj nj cj) (.slice aw nw cw) (.slice ag ng cg) (.slice ah nh ch) (.slice ao no co),.int .i64 c])/\d4m (fun b=>W.heap.size<=b) w' q (QV q (.slice ai ni ci) (.slice aj nj cj) (.slice aw nw cw) (.slice ag ng cg) (.slice ah nh ch) (.slice ao no co))/\ReadE ts k q c k1:=by
 obtain⟨hb,k1,q,si,sj,sw,sg,sh,so,c,hk,rfl,hp,hc⟩:=h;obtain⟨ai,ci,aj,cj,aw,cw,ag,cg,ah,ch,ao,co,rfl,rfl,rfl,rfl,rfl,rfl⟩:=hp.slices;exact⟨q,c,k1,_,_,_,_,_,_,_,_,_,_,_,_,_,_,_,_,_,_,hb,hk,rfl,⟨_,_,_,_,_,_,rfl,hp⟩,by
  rcases hc with⟨rfl,hr⟩|⟨hc,hr,rfl,rfl⟩
  ·exact .inl ⟨hr,rfl⟩
  ·exact .inr ⟨hc,hr,rfl,rfl⟩⟩
theorem qstreams_big(s:List UInt8)(hs:s.length<=9223372036854775807)(hl:1500<s.length)(W:World)(hG:nD W):eu 4 #[S s] W (Yes W):=by
 have HG:=aB hG;have hl':1500<(s.length:Int):=aE;clear hG hl;go_enter func4,ntmps4;go_wp2_with fail
 (with_reducible refine(d7c _ HG.o).mono ?_)
 rintro e w1 ⟨rfl,hb1⟩;go_wp2;go_ret;exact⟨rfl,hb1⟩
theorem qstreams_bad(s:List UInt8)(hl:s.length<=1500)(h:bY s≠0)(W:World)(hG:nD W):eu 4 #[S s] W (Yes W):=by
 have HG:=aB hG;have hl':¬1500<(s.length:Int):=aE;have hne:(bY s != 0)=true:=ay;have HA:=aB h;have HL:=aB hl;clear hG hl h;go_enter func4,ntmps4;go_wp2_with fail
 (with_reducible refine(a7d s (by have:=HL.o;omega) HA.o _ HG.o).mono ?_)
 rintro e w1 ⟨rfl,hb1⟩;have HB1:=aB hb1;clear hb1;go_wp2_with fail;refine(a9w s (by have:=HL.o;omega) _).mono ?_;rintro e w2 ⟨v,rfl,hb2,-⟩;have HB2:=aB (HB1.o.call hb2);clear hb2;generalize bY s=z at *;go_wp2_with fail
 (with_reducible refine(d7k _ _).mono ?_)
 rintro e w' ⟨rfl,rfl⟩;go_wp2_with fail
 (with_reducible refine(d7c _ (HG.o.bl HB2.o)).mono ?_)
 rintro e w3 ⟨rfl,hb3⟩;go_wp2;go_ret;exact⟨rfl,HB2.o.call hb3⟩
theorem qstreams_good(s:List UInt8)(hl:s.length<=1500)(ts:List Tok)(ht:jQ s=some ts)(W:World)(hG:nD W):eu 4 #[S s] W (Yes W):=by
 have HG:=aB hG;have hl':¬1500<(s.length:Int):=aE;have HTS:=aB ht;have HT:=aB (a4t ht);have HTV:=aB (e6n ht);have HL:=aB hl;have hfew:(ts++[eT s.length]).length<=100000:=(by have:=zI ht;simp;omega);clear hG hl ht;go_enter func4,ntmps4;go_wp2_with fail
 (with_reducible refine(a4h s (by have:=HL.o;omega) ts HTS.o _ HG.o).mono ?_)
 rintro e w1 ⟨bs,g,cap,rfl,hb1,hbs,hgs,hs1⟩;have HB1:=aB hb1;have HS1:=aB hs1;clear hb1 hs1;go_wp2_with fail;refine(a4n s (by have:=HL.o;omega) ts HTS.o _).mono ?_;rintro e w2 ⟨g2,cap2,rfl,hb2,hrow⟩;have HB2:=aB (HB1.o.call hb2);have HS2:=aB (HS1.o.bl hb2);have HR2:=aB hrow;have hbl2:=HS2.o.lt';have hgq2:=HS2.o.gl;have hWq:=HB2.o.size;clear hb2 hrow HL HTS;generalize ts++[eT s.length]=tl at *;have hpos:0<tl.length:=HS2.o.lt;have hgl2:g2<w2.heap.size:=bB _ _ (HR2.o 0 hpos).1;have hgb:g2≠bs:=by
  rintro rfl;have h1:=(aU HS2.o.own).1;rw[(HR2.o 0 hpos).1] at h1;cases h1
 go_wp2_with fail;go_loopw [8] (fun i wr=>∃(j kk:Nat),i= .int .i64 (j:Int)/\j<=30/\Hid (Bl W wr)/\Hid (iV wr bs g cap tl kk)/\Hid (Row wr g2 tl)/\Hid (wr.heap[w2.heap.size]?=some (.cells #[.slice (some ⟨g2,0,none⟩) tl.length cap2,.int .i64 (kk:Int)] 54 (0,0)))) (fun i _=>30-(intOf i).toNat)
 case atStart=>exact⟨0,0,rfl,by omega,HB2.o.alloc _,HS2.o.bl ((Bl.refl _).alloc _),HR2.o.bl ((Bl.refl _).alloc _),aN w2 _⟩
 case round=>
  clear HS1 HS2 HR2 HB1 HB2;obtain⟨j,kk,rfl,hj,HB,HS,HR,HQ⟩:=hrel;by_cases hlt:j<30
  ·have hlt':(j:Int)<30:=by omega
   have hzq:=(aC.1 HQ.o).1;have HKK:=aB HS.o.lt;by_cases hm:(j:Int) % 3=2
   ·have hm1:((j:Int) % 3==2)=true:=by simpa using hm
    clear hm;go_wp2_with fail;refine(qItems_any HS.o HT.o).mono ?_;intro e w3 hp;obtain⟨hg3,hcase⟩:=hp;have HB3:=aB (a6z HB.o hg3 hbs);have HQ3:=aB ((hg3.block _ hzq (fun e=>by injection e with e;omega)).trans HQ.o);have HR3:=aB (HR.o.block (hg3.block g2 aE (fun e=>by injection e with e;omega)));have hz3:=(aC.1 HQ3.o).1;have hz4:=hg3.4;clear hg3;rcases hcase with⟨k1,l,v,hr3,hs3,hrow,rfl⟩|⟨c,hc,hr3,hs3,rfl⟩
    ·obtain⟨hi3,hl3⟩:=readItems_good hr3;obtain⟨ai,ci,rfl,-⟩:=hrow.shape;have HSM:Hid (l.length<=1000000/\∀i∈l,d6t i.x):=by
      have h:=itemsR_few HT.o HKK.o hi3;exact⟨by omega,fun i hi=>d6i (by have:=h.1 i hi;omega)⟩
     have HS3:=aB hs3;have HV3:Hid (d2p fIt (fun b=>w2.heap.size<b) w3 (.slice ai l.length ci) l):=hrow.low fun b (hb:_<=b)=>aE;have HI3:=aB hi3;have hl4:¬(32<(l.length:Int)):=aE;clear hr3 hs3 hrow hi3 hl3;obtain⟨q0,q1,-,-,-⟩:=aU HQ3.o;go_wp2_with fail;refine(d7q HR3.o HT.o hfew HKK.o).mono ?_;intro e w5 hp;obtain⟨hb5,k',l',v',c',hk',rfl,hrow5,hc5⟩:=hp;obtain⟨rfl,rfl,rfl⟩:=items_good HI3.o hc5;obtain⟨bi,di,rfl,-⟩:=hrow5.shape;have hA:=(Bl.refl w5).alloc (.cells #[.slice (some ⟨g2,0,none⟩) tl.length cap2,.int .i64 (k1:Int)] 54);have HQ5:=aB (pY (pY HQ3.o hb5) hA);have HV5:Hid (d2p fIt (fun b=>w2.heap.size<b) (w5.alloc (.cells #[.slice (some ⟨g2,0,none⟩) tl.length cap2,.int .i64 (k1:Int)] 54)) (.slice ai l.length ci) l/\d2p fIt (fun b=>w2.heap.size<b) (w5.alloc (.cells #[.slice (some ⟨g2,0,none⟩) tl.length cap2,.int .i64 (k1:Int)] 54)) (.slice bi l.length di) l):=⟨(HV3.o.bl hb5).bl hA,(hrow5.bl hA).low fun b (hb:_<=b)=>by omega⟩
     have HS5:=aB ((HS3.o.bl hb5).bl hA);have HR5:=aB ((HR3.o.bl hb5).bl hA);have HB5:=aB ((HB3.o.call hb5).call hA);have hz5:=hb5.size;clear hb5 hA hrow5 hc5 q0 q1 HB3 HQ3 HR3 HS3 HV3 HI3;go_wp2_with (refine bA rfl rfl rfl rfl (sC g2 tl.length cap2 k1) HQ5.o rfl rfl d2j rfl ?_)
     intro w6 hB6 hX6;have HQ6:=aB hX6;have HS6:=aB (HS5.o.but hB6 aE aE);have HR6:=aB (HR5.o.block (hB6.same g2 aE));have HV6:=aB (bT (HV5.o.1.but hB6 (fun i (hi:_<i)=>by omega)) (HV5.o.2.but hB6 (fun i (hi:_<i)=>by omega)));have HB6:=aB (But.bl' HB5.o hB6 hWq);clear hB6 hX6 HQ5 HS5 HR5 HV5 HB5;go_wp2_with fail;refine wp_region_noPanic (bM (fun B=>B.heap[w2.heap.size]?=some (.cells #[.slice (some ⟨g2,0,none⟩) tl.length cap2,.int .i64 (k1:Int)] 54 (0,0))) ((.take 0 (.take 1 (.one 2 (.take 3 (.take 4 (.take 5 (.take 7 (.one 6 (.take 8 (.take 9 (.take 10 (.take 11 (.take 13 (.take 14 (.one 12 (.take 15 (.take 16 .done)))))))))))))))))) ab ab ab (fun _ _ _ _ _ h=>h) ((pY HQ6.o ((Bl.refl _).drew))) ?_);intro wd HWD hY;iterate 2 (refine aI rfl ae bk ?_;(try simp only[aK,aA,aD,aF]))
     refine aL rfl (fun K hK=>?_);go_simp;(refine(d7a (l:=l) HSM.o.1 HSM.o.2 (HV6.o.1.bl HWD.o) (HV6.o.2.bl HWD.o)).mono ?_;rintro e w7 ⟨rfl,hb7⟩);go_wp2_with fail;refine hK.o _ _ (cD) ?_;clear hY hK K;intro hY;iterate 4 (refine aI rfl ae bk ?_;(try simp only[aK,aA,aD,aF]))
     refine aL rfl (fun K hK=>?_);go_simp;((with_reducible refine(d7k _ _).mono ?_);rintro e w8 ⟨rfl,rfl⟩);go_wp2_with fail;refine hK.o _ _ (cD) ?_;clear hY hK K;intro hY;iterate 6 (refine aI rfl ae bk ?_;(try simp only[aK,aA,aD,aF]))
     refine aL rfl (fun K hK=>?_);go_simp;((with_reducible refine(b9a (HS6.o.bl (HWD.o.call hb7))).mono ?_);rintro e w9 ⟨rfl,rfl⟩);go_wp2_with fail;refine hK.o _ _ (cD) ?_;clear hY hK K;intro hY;iterate 2 (refine aI rfl ae bk ?_;(try simp only[aK,aA,aD,aF]))
     refine fO (bF ?_);go_wp2_with fail;have HB7:=aB (HWD.o.call hb7);have HS7:=aB (HS6.o.bl HB7.o);have HR7:=aB (HR6.o.bl HB7.o);have HQ7:=aB hY;have HW7:=aB (HB6.o.call HB7.o);clear hY hb7
     (with_reducible refine(yY HS7.o (aP HS7.o.lt)).mono ?_)
     rintro e w8 ⟨rfl,hg8,hs8⟩;have HW8:=aB (a6z HW7.o hg8 hbs);have HQ8:=aB ((hg8.block _ (aC.1 HQ7.o).1 (fun e=>by injection e with e;omega)).trans HQ7.o);have HR8:=aB (HR7.o.block (hg8.block g2 (bB _ _ (HR7.o 0 hpos).1) (fun e=>by injection e with e;omega)));have HS8:=aB hs8;clear hg8 hs8;obtain⟨q0,q1,z0,z1,hq4⟩:=aU HQ8.o;go_wp2_with fail
     (with_reducible refine(a0c HS7.o.lt hfew).mono ?_)
     rintro e w9 ⟨rfl,hb9⟩;have HQ9:=aB (pY HQ8.o hb9);have HH9:=aB (bT (HW8.o.call hb9) (bT (HS8.o.bl hb9) (HR8.o.bl hb9)));clear hb9 q0 q1 z0 z1;obtain⟨q0,q1,z0,z1,hq9⟩:=aU HQ9.o;go_wp2;go_roundw
     case rel=>exact⟨j+1,_,by go_num,by omega,nE HH9.o.1 hWq _ _,HH9.o.2.1.keep (cO _ aE _ _) (cO _ aE _ _),HH9.o.2.2.block (cO _ aE _ _),kQ HQ9.o _ _⟩
     case measure=>simp[intOf];omega
    ·have HI3:=aB hr3;have HC3:=aB hc;have HS3:=aB hs3;have HSM:Hid (([]:List It).length<=1000000/\∀i∈([]:List It),d6t i.x):=⟨dL _,fun i hi=>by cases hi⟩
     clear hr3 hs3 hc;obtain⟨q0,q1,-,-,-⟩:=aU HQ3.o;go_wp2_with fail;refine(d7q HR3.o HT.o hfew HKK.o).mono ?_;intro e w5 hp;obtain⟨hb5,k',l',v',c',hk',rfl,hrow5,hc5⟩:=hp;obtain⟨bi,di,rfl,-⟩:=hrow5.shape;have hA:=hb5.alloc (.cells #[.slice (some ⟨g2,0,none⟩) tl.length cap2,.int .i64 (k':Int)] 54);have HQ6:=aB (pY HQ3.o hA);have HS6:=aB (HS3.o.bl hA);have HR6:=aB (HR3.o.bl hA);have HB6:=aB (HB3.o.call hA);have HV6:Hid (d2p fIt (fun _=>True) (w5.alloc (.cells #[.slice (some ⟨g2,0,none⟩) tl.length cap2,.int .i64 (k':Int)] 54)) (.slice none 0 0) []/\d2p fIt (fun _=>True) (w5.alloc (.cells #[.slice (some ⟨g2,0,none⟩) tl.length cap2,.int .i64 (k':Int)] 54)) (.slice none 0 0) []):=⟨.nil _ _ _ _,.nil _ _ _ _⟩
     have hz5:=hb5.size;clear hb5 hA hrow5 q0 q1 HB3 HQ3 HR3 HS3;rcases items_bad HI3.o HC3.o hc5 with⟨rfl,rfl,hl5⟩|⟨rfl,hb⟩
     ·have hl4:32<(l'.length:Int):=by omega
      clear hc5 HI3 HC3 hl5;go_wp2_with fail;generalize w5.alloc (.cells #[.slice (some ⟨g2,0,none⟩) tl.length cap2,.int .i64 (k':Int)] 54)=w6 at *;refine wp_region_noPanic (bM (fun B=>B.heap[w2.heap.size]?=some (.cells #[.slice (some ⟨g2,0,none⟩) tl.length cap2,.int .i64 (kk:Int)] 54 (0,0))) ((.take 0 (.take 1 (.one 2 (.take 3 (.take 4 (.take 5 (.take 7 (.one 6 (.take 8 (.take 9 (.take 10 (.take 11 (.take 13 (.take 14 (.one 12 (.take 15 (.take 16 .done)))))))))))))))))) ab ab ab (fun _ _ _ _ _ h=>h) ((pY HQ6.o ((Bl.refl _).drew))) ?_);intro wd HWD hY;iterate 2 (refine aI rfl ae bk ?_;(try simp only[aK,aA,aD,aF]))
      refine aL rfl (fun K hK=>?_);go_simp;(refine(d7a (l:=[]) HSM.o.1 HSM.o.2 (HV6.o.1.bl HWD.o) (HV6.o.2.bl HWD.o)).mono ?_;rintro e w7 ⟨rfl,hb7⟩);go_wp2_with fail;refine hK.o _ _ (cD) ?_;clear hY hK K;intro hY;iterate 4 (refine aI rfl ae bk ?_;(try simp only[aK,aA,aD,aF]))
      refine aL rfl (fun K hK=>?_);go_simp;((with_reducible refine(d7k _ _).mono ?_);rintro e w8 ⟨rfl,rfl⟩);go_wp2_with fail;refine hK.o _ _ (cD) ?_;clear hY hK K;intro hY;iterate 6 (refine aI rfl ae bk ?_;(try simp only[aK,aA,aD,aF]))
      refine aL rfl (fun K hK=>?_);go_simp;((with_reducible refine(b9a (HS6.o.bl (HWD.o.call hb7))).mono ?_);rintro e w9 ⟨rfl,rfl⟩);go_wp2_with fail;refine hK.o _ _ (cD) ?_;clear hY hK K;intro hY;iterate 2 (refine aI rfl ae bk ?_;(try simp only[aK,aA,aD,aF]))
      refine fO (bF ?_);go_wp2_with fail;have HB7:=aB (HWD.o.call hb7);have HS7:=aB (HS6.o.bl HB7.o);have HR7:=aB (HR6.o.bl HB7.o);have HQ7:=aB hY;have HW7:=aB (HB6.o.call HB7.o);clear hY hb7
      (with_reducible refine(yY HS7.o (aP HS7.o.lt)).mono ?_)
      rintro e w8 ⟨rfl,hg8,hs8⟩;have HW8:=aB (a6z HW7.o hg8 hbs);have HQ8:=aB ((hg8.block _ (aC.1 HQ7.o).1 (fun e=>by injection e with e;omega)).trans HQ7.o);have HR8:=aB (HR7.o.block (hg8.block g2 (bB _ _ (HR7.o 0 hpos).1) (fun e=>by injection e with e;omega)));have HS8:=aB hs8;clear hg8 hs8;obtain⟨q0,q1,z0,z1,hq4⟩:=aU HQ8.o;go_wp2_with fail
      (with_reducible refine(a0c HS7.o.lt hfew).mono ?_)
      rintro e w9 ⟨rfl,hb9⟩;have HQ9:=aB (pY HQ8.o hb9);have HH9:=aB (bT (HW8.o.call hb9) (bT (HS8.o.bl hb9) (HR8.o.bl hb9)));clear hb9 q0 q1 z0 z1;obtain⟨q0,q1,z0,z1,hq9⟩:=aU HQ9.o;go_wp2;go_roundw
      case rel=>exact⟨j+1,_,by go_num,by omega,nE HH9.o.1 hWq _ _,HH9.o.2.1.keep (cO _ aE _ _) (cO _ aE _ _),HH9.o.2.2.block (cO _ aE _ _),kQ HQ9.o _ _⟩
      case measure=>simp[intOf];omega
     ·clear hc5 HI3 HC3;go_wp2_with fail;generalize w5.alloc (.cells #[.slice (some ⟨g2,0,none⟩) tl.length cap2,.int .i64 (k':Int)] 54)=w6 at *;refine wp_region_noPanic (bM (fun B=>B.heap[w2.heap.size]?=some (.cells #[.slice (some ⟨g2,0,none⟩) tl.length cap2,.int .i64 (kk:Int)] 54 (0,0))) ((.take 0 (.take 1 (.one 2 (.take 3 (.take 4 (.take 5 (.take 7 (.one 6 (.take 8 (.take 9 (.take 10 (.take 11 (.take 13 (.take 14 (.one 12 (.take 15 (.take 16 .done)))))))))))))))))) ab ab ab (fun _ _ _ _ _ h=>h) ((pY HQ6.o ((Bl.refl _).drew))) ?_);intro wd HWD hY;iterate 2 (refine aI rfl ae bk ?_;(try simp only[aK,aA,aD,aF]))
      refine aL rfl (fun K hK=>?_);go_simp;(refine(d7a (l:=[]) HSM.o.1 HSM.o.2 (HV6.o.1.bl HWD.o) (HV6.o.2.bl HWD.o)).mono ?_;rintro e w7 ⟨rfl,hb7⟩);go_wp2_with fail;refine hK.o _ _ (cD) ?_;clear hY hK K;intro hY;iterate 4 (refine aI rfl ae bk ?_;(try simp only[aK,aA,aD,aF]))
      refine aL rfl (fun K hK=>?_);go_simp;((with_reducible refine(d7k _ _).mono ?_);rintro e w8 ⟨rfl,rfl⟩);go_wp2_with fail;refine hK.o _ _ (cD) ?_;clear hY hK K;intro hY;iterate 6 (refine aI rfl ae bk ?_;(try simp only[aK,aA,aD,aF]))
      refine aL rfl (fun K hK=>?_);go_simp;((with_reducible refine(b9a (HS6.o.bl (HWD.o.call hb7))).mono ?_);rintro e w9 ⟨rfl,rfl⟩);go_wp2_with fail;refine hK.o _ _ (cD) ?_;clear hY hK K;intro hY;iterate 2 (refine aI rfl ae bk ?_;(try simp only[aK,aA,aD,aF]))
      refine fO (bF ?_);go_wp2_with fail;have HB7:=aB (HWD.o.call hb7);have HS7:=aB (HS6.o.bl HB7.o);have HR7:=aB (HR6.o.bl HB7.o);have HQ7:=aB hY;have HW7:=aB (HB6.o.call HB7.o);clear hY hb7
      (with_reducible refine(yY HS7.o (aP HS7.o.lt)).mono ?_)
      rintro e w8 ⟨rfl,hg8,hs8⟩;have HW8:=aB (a6z HW7.o hg8 hbs);have HQ8:=aB ((hg8.block _ (aC.1 HQ7.o).1 (fun e=>by injection e with e;omega)).trans HQ7.o);have HR8:=aB (HR7.o.block (hg8.block g2 (bB _ _ (HR7.o 0 hpos).1) (fun e=>by injection e with e;omega)));have HS8:=aB hs8;clear hg8 hs8;obtain⟨q0,q1,z0,z1,hq4⟩:=aU HQ8.o;go_wp2_with fail
      (with_reducible refine(a0c HS7.o.lt hfew).mono ?_)
      rintro e w9 ⟨rfl,hb9⟩;have HQ9:=aB (pY HQ8.o hb9);have HH9:=aB (bT (HW8.o.call hb9) (bT (HS8.o.bl hb9) (HR8.o.bl hb9)));clear hb9 q0 q1 z0 z1;obtain⟨q0,q1,z0,z1,hq9⟩:=aU HQ9.o;go_wp2;go_roundw
      case rel=>exact⟨j+1,_,by go_num,by omega,nE HH9.o.1 hWq _ _,HH9.o.2.1.keep (cO _ aE _ _) (cO _ aE _ _),HH9.o.2.2.block (cO _ aE _ _),kQ HQ9.o _ _⟩
      case measure=>simp[intOf];omega
   ·have hm1:((j:Int) % 3==2)=false:=by simpa using hm
    clear hm;go_wp2_with fail;refine(e3m HS.o HT.o HTV.o).mono ?_;intro e w3 hp;obtain⟨q,c,k1,ai,ni,ci,aj,nj,cj,aw,nw,cw,ag,ng,cg,ah,nh,ch,ao,no,co,hg3,hs3,rfl,hv3,hr3⟩:=hp.both;have HB3:=aB (a6z HB.o hg3 hbs);have HQ3:=aB ((hg3.block _ hzq (fun e=>by injection e with e;omega)).trans HQ.o);have HR3:=aB (HR.o.block (hg3.block g2 aE (fun e=>by injection e with e;omega)));have HS3:=aB hs3;have HV3:Hid (d4m (fun b=>w2.heap.size<b) w3 _ _):=hv3.low fun b (hb:_<=b)=>aE;have HE3:=aB hr3;have hz3:=(aC.1 HQ3.o).1;have HSQ:=aB (hr3.self HT.o HKK.o hfew);clear hg3 hs3 hv3 hr3 hp;have HY4:=aB (aN w3 (.cells zQL.toArray 36));have HA4:=aB ((Bl.refl w3).alloc (.cells zQL.toArray 36));go_wp2_with (refine bA rfl rfl rfl rfl (quC q (.slice ai ni ci) (.slice aj nj cj) (.slice aw nw cw) (.slice ag ng cg) (.slice ah nh ch) (.slice ao no co)) HY4.o rfl rfl tC rfl ?_)
    intro w4 hB4 hX4;have HX4:=aB hX4;have HB4:=aB ((HB3.o).call (HA4.o.but hB4 (aH _)));have HC4:=aB (HA4.o.but hB4 (aH _));clear hB4 hX4 HY4 HA4;have HZ4:=aB (lt_of_heap HX4.o);have HQ4:=aB (pY HQ3.o HC4.o);have HR4:=aB (HR3.o.bl HC4.o);have HS4:=aB (HS3.o.bl HC4.o);have HV4:=aB (HV3.o.bl HC4.o);have hz4:=lt_of_heap HQ4.o;clear HC4 HQ3 HR3 HS3 HV3 HB3;obtain⟨q0,q1,-,-,-⟩:=aU HQ4.o;go_wp2_with fail;refine(e2s HR4.o HT.o hfew HKK.o).mono ?_;intro e w5 hp;obtain⟨q',c',k1',bi,mi,di,bj,mj,dj,bw,mw,dw,bg,mg,dg,bh,mh,dh,bo,mo,do',hb5,hk5,rfl,hv5,hr5⟩:=hp.both;obtain⟨rfl,rfl,rfl⟩:=HE3.o.det hr5;have HB5:=aB (HB4.o.call hb5);have HX5:=aB (pY HX4.o hb5);have HQ5:=aB (pY HQ4.o hb5);have HR5:=aB (HR4.o.bl hb5);have HS5:=aB (HS4.o.bl hb5);have HV5:Hid (d4m (fun b=>w2.heap.size<b) w5 _ _/\d4m (fun b=>w2.heap.size<b) w5 _ _):=⟨HV4.o.bl hb5,hv5.low fun b (hb:_<=b)=>by omega⟩
    have hlt5:=lt_of_heap HX5.o;have hz5:=lt_of_heap HQ5.o;clear hp hb5 hv5 hr5 q0 q1 HB4 HX4 HQ4 HR4 HS4 HV4 HZ4 HE3;have HA5:=aB (((Bl.refl w5).alloc (.cells #[.slice none 0 0,.int .i64 0] 54)).alloc (.cells zQL.toArray 36));have HY5:=aB ((aW (w5.alloc (.cells #[.slice none 0 0,.int .i64 0] 54)) (.cells zQL.toArray 36) aa).trans (aN w5 _));have HY6:=aB (aV (w5.alloc (.cells #[.slice none 0 0,.int .i64 0] 54)) (.cells zQL.toArray 36) (k:=w5.heap.size+1) aa);go_wp2_with (refine bA rfl rfl rfl rfl (sC g2 tl.length cap2 k1') HY5.o rfl rfl d2j rfl ?_)
    intro w6 hB6 hX6;have HY7:=aB ((hB6.same _ aE).trans HY6.o);have HX6:=aB hX6;have HB6:=aB (HA5.o.but hB6 (aH _));clear hB6 hX6 HY5 HY6 HA5;go_wp2_with (refine bA rfl rfl rfl rfl (quC q' (.slice bi mi di) (.slice bj mj dj) (.slice bw mw dw) (.slice bg mg dg) (.slice bh mh dh) (.slice bo mo do')) HY7.o rfl rfl tC rfl ?_)
    intro w7 hB7 hX7;have HB7:=aB (HB6.o.but hB7 aE);have HX7:=aB (bT (pY HX5.o HB7.o) (bT hX7 ((hB7.same _ aE).trans HX6.o)));have HQ7:=aB (pY HQ5.o HB7.o);have HR7:=aB (HR5.o.bl HB7.o);have HS7:=aB (HS5.o.bl HB7.o);have HV7:=aB (bT (HV5.o.1.bl HB7.o) (HV5.o.2.bl HB7.o));have hz7:=HB7.o.size;have HW7:=aB (HB5.o.call HB7.o);clear hB7 hX7 HX6 HY7 HB6 HX5 HQ5 HR5 HS5 HV5 HB5 HB7;obtain⟨q0,q1,-,-,-⟩:=aU HX7.o.2.2;go_wp2_with (refine bA rfl rfl rfl rfl (sC g2 tl.length cap2 k1') HQ7.o rfl rfl d2j rfl ?_)
    intro w8 hB8 hX8;have hg8:=hB8.grown;have HX8:=aB (bT ((hB8.same _ aE).trans HX7.o.1) (bT ((hB8.same _ aE).trans HX7.o.2.1) hX8));have HS8:=aB (HS7.o.but hB8 aE aE);have HR8:=aB (HR7.o.block (hB8.same g2 aE));have HV8:=aB (bT ((HV7.o.1.but hB8 (fun i (hi:_<i)=>by omega)).low fun _ _=>trivial:d5o w8 q' _) ((HV7.o.2.but hB8 (fun i (hi:_<i)=>by omega)).low fun _ _=>trivial:d5o w8 q' _));have HW8:=aB (But.bl' HW7.o hB8 hWq);clear hB8 hX8 hg8 HX7 HQ7 HR7 HS7 HV7 HW7 q0 q1;go_wp2_with fail;refine wp_region_noPanic (bM (fun B=>B.heap[w3.heap.size]?=some (.cells (quC q' (.slice ai ni ci) (.slice aj nj cj) (.slice aw nw cw) (.slice ag ng cg) (.slice ah nh ch) (.slice ao no co)).toArray 36 (0,0))/\B.heap[w5.heap.size+1]?=some (.cells (quC q' (.slice bi mi di) (.slice bj mj dj) (.slice bw mw dw) (.slice bg mg dg) (.slice bh mh dh) (.slice bo mo do')).toArray 36 (0,0))/\B.heap[w2.heap.size]?=some (.cells #[.slice (some ⟨g2,0,none⟩) tl.length cap2,.int .i64 (k1':Int)] 54 (0,0))) ((.take 0 (.take 1 (.one 2 (.take 3 (.take 4 (.take 5 (.take 7 (.one 6 (.take 8 (.take 9 (.take 10 (.take 11 (.take 13 (.take 14 (.one 12 (.take 15 (.take 16 .done)))))))))))))))))) ab ab ab (fun _ _ _ _ _ h=>h) (⟨pY HX8.o.1 ((Bl.refl _).drew),pY HX8.o.2.1 ((Bl.refl _).drew),pY HX8.o.2.2 ((Bl.refl _).drew)⟩) ?_);intro wd HWD hY;refine aI rfl ae (fun w hSw=>eD rfl rfl hSw.1 underlying36 rfl tC) ?_;(try simp only[aK,aA,aD,aF])
    refine aI rfl ae (fun w hSw=>eD rfl rfl hSw.2.1 underlying36 rfl tC) ?_;(try simp only[aK,aA,aD,aF])
    refine aL rfl (fun K hK=>?_);go_simp;(refine(e1d HSQ.o _ _ _ (HV8.o.1.bl HWD.o) (HV8.o.2.bl HWD.o)).mono ?_;rintro e w7' ⟨rfl,hb7⟩);go_wp2_with fail;refine hK.o _ _ (ej) ?_;clear hY hK K;intro hY;iterate 4 (refine aI rfl ae eh ?_;(try simp only[aK,aA,aD,aF]))
    refine aL rfl (fun K hK=>?_);go_simp;((with_reducible refine(d7k _ _).mono ?_);rintro e w9 ⟨rfl,rfl⟩);go_wp2_with fail;refine hK.o _ _ (ej) ?_;clear hY hK K;intro hY;iterate 6 (refine aI rfl ae eh ?_;(try simp only[aK,aA,aD,aF]))
    refine aL rfl (fun K hK=>?_);go_simp;((with_reducible refine(b9a (HS8.o.bl (HWD.o.call hb7))).mono ?_);rintro e w9 ⟨rfl,rfl⟩);go_wp2_with fail;refine hK.o _ _ (ej) ?_;clear hY hK K;intro hY;iterate 2 (refine aI rfl ae eh ?_;(try simp only[aK,aA,aD,aF]))
    refine fO (bF ?_);go_wp2_with fail;have HB7:=aB (HWD.o.call hb7);have HS7:=aB (HS8.o.bl HB7.o);have HR7:=aB (HR8.o.bl HB7.o);have HQ7:=aB hY.2.2;have HW7:=aB (HW8.o.call HB7.o);clear hY hb7 HB7 HS8 HR8 HW8 HX8 HV8
    (with_reducible refine(yY HS7.o (aP HS7.o.lt)).mono ?_)
    rintro e w8 ⟨rfl,hg8,hs8⟩;have HW8:=aB (a6z HW7.o hg8 hbs);have HQ8:=aB ((hg8.block _ (aC.1 HQ7.o).1 (fun e=>by injection e with e;omega)).trans HQ7.o);have HR8:=aB (HR7.o.block (hg8.block g2 (bB _ _ (HR7.o 0 hpos).1) (fun e=>by injection e with e;omega)));have HS8:=aB hs8;clear hg8 hs8;obtain⟨q0,q1,z0,z1,hq4⟩:=aU HQ8.o;go_wp2_with fail
    (with_reducible refine(a0c HS7.o.lt hfew).mono ?_)
    rintro e w9 ⟨rfl,hb9⟩;have HQ9:=aB (pY HQ8.o hb9);have HH9:=aB (bT (HW8.o.call hb9) (bT (HS8.o.bl hb9) (HR8.o.bl hb9)));clear hb9 q0 q1 z0 z1;obtain⟨q0,q1,z0,z1,hq9⟩:=aU HQ9.o;go_wp2;go_roundw
    case rel=>exact⟨j+1,_,by go_num,by omega,nE HH9.o.1 hWq _ _,HH9.o.2.1.keep (cO _ aE _ _) (cO _ aE _ _),HH9.o.2.2.block (cO _ aE _ _),kQ HQ9.o _ _⟩
    case measure=>simp[intOf];omega
  ·obtain rfl:j=30:=by omega
   go_wp2_with fail
   (with_reducible refine(qRead_nil _).mono ?_)
   rintro e w3 ⟨rfl,hb3⟩;have HB3:=aB (HB.o.call hb3);have HY3:=aB (aN w3 (.cells zQL.toArray 36));clear hb3;go_wp2_with (refine bA rfl rfl rfl rfl zQL HY3.o rfl rfl tC rfl ?_)
   intro w4 hB4 hX4;have HB4:=aB (HB3.o.call (((Bl.refl w3).alloc (.cells zQL.toArray 36)).but hB4 (aH _)));clear hB4 hX4 HY3 HB3;go_wp2_with fail
   (with_reducible refine(qItems_nil _).mono ?_)
   rintro e w5 ⟨rfl,hb5⟩;have HB5:=aB (HB4.o.call hb5);clear hb5;go_wp2_with fail
   (with_reducible refine(d7k _ _).mono ?_)
   rintro e w' ⟨rfl,rfl⟩;go_wp2_with fail
   (with_reducible refine(d7k _ _).mono ?_)
   rintro e w' ⟨rfl,rfl⟩;go_wp2_with fail;refine(d7c _ (HG.o.bl HB5.o)).mono ?_;rintro e w6 ⟨rfl,hb6⟩;go_wp2;go_ret;exact⟨rfl,HB5.o.call hb6⟩
theorem qstreams_all(s:List UInt8)(hs:s.length<=9223372036854775807)(W:World)(hG:nD W):eu 4 #[S s] W (Yes W):=by
 by_cases hl:1500<s.length
 ·exact qstreams_big s hs hl W hG
 ·by_cases h:bY s=0
  ·cases ht:jQ s with
   |none=>
    unfold bY at h;rw[if_neg aE,if_pos ht] at h;cases h
   |some ts=>exact qstreams_good s aE ts ht W hG
  ·exact qstreams_bad s aE h W hG
end
section
theorem qstreams_lifted(os:Os)(started:os.Started)(H:Type)(enc:TypeId×Value->H):
  ReturnsInHanded {} Tryz.checked os 4 .any (fun w args=>(Rows.queryStreamsSpec.pre enc prog Tryz.f4 [] false w args/\laidMetH prog b2j w)/\sizedMet enc prog Tryz.f4 (OpenSpec.ofChange Rows.queryStreamsSpec) false w args)
   (Rows.queryStreamsSpec.post enc prog Tryz.f4 false true false false):=by
 refine wrap (C:=Tryz.checked) (X:=fun w _=>laidMetH prog b2j w) (fun _ _ _ hh h=>h.of_heap hh) own started ab func4
  (ChangeSpec.witness_shaped (enc:=enc) (C:=Tryz.checked) (os:=os) (X:=fun w _=>laidMetH prog b2j w) false (World.laidAll prog os b2j) #[S []] 8 (World.laidAll_os _ _ _)
   (World.shaped_of_ZipB ab ab) ab ab ab
   (by rw[MakeChecks.laidMetH_plain _ _ _ ab];exact laidMet_laidAll _ ab ab)) ?_
 intro W base args ds gs before hval0 hW _ hL hsh;have hval:∀(j:Nat) t v,Tryz.f4.params[j]?=some t->args[j]?=some v->Value.okWide prog W .any base t v:=hval0;have hW':=hW;obtain⟨p,q,hA0,hV,hpq,_,_⟩:=hW;have hA:DataW.TrodAll enc prog W 0 (fun _=>true) true Tryz.f4.params.toList args.toList ds p:=hA0;rw[params4] at hA hval;obtain⟨v0,d0,rfl,rfl,h0⟩:=trodAll_one hA;obtain⟨rfl,rfl⟩:=trodVars_none hV;obtain⟨s,rfl,rfl,rfl,ws⟩:=open_string underlying9 (hval 0 9 v0 rfl rfl) h0;obtain⟨⟨s⟩⟩:=s;refine(qstreams_all s (by have h:=ws;rw[size_of_list] at h;unfold maxLen at h;omega) W (c3o hL hsh)).mono fun e W' ⟨he,hb⟩=>?_;subst he;exact⟨_,rfl,b8p laidOut underlying4 ab (by rw[params4];intro t ht;obtain rfl:t=9:=cQ;exact⟨by kernel_rfl,of_decide_eq_true ab⟩) rfl hW' rfl hb⟩
theorem qstreams_holds:Rows.QueryStreamsSaid:=
 OpenClaim.holds_of_wide 4 Tryz.f4 rfl rfl rfl rfl rfl rfl rfl ⟨rfl,rfl,rfl,rfl,rfl⟩ rfl rfl rfl rfl rfl dr func4 (by unfold joinedFacts;simp only[aQ];(repeat' apply bT);all_goals (as_aux_lemma=>kernel_rfl))
  (of_decide_eq_true dr) (by unfold Func.isWrapper;first |(rw[if_pos cc];kernel_rfl)|(rw[if_neg cc];exact⟨rfl,rfl⟩))
  (fun os started H enc _=>qstreams_lifted os started H enc)
theorem qstreams_card:Rows.QueryStreamsCardSaid:=
 Claim7.holds_tied_plain_at .later [] [.data,.data,.data,.data,.sentinel,.sentinel,.pinned] true Rows.queryStreamsCard.stood.harness true qstreams_holds (fun _ h=>by cases h) dr (fun _ h=>by cases h) queryStreams_row_tie rfl ⟨rfl,rfl⟩ dr rfl
  (fun f fn hf hfn=>by
   obtain rfl:f=4:=Option.some.inj ((show prog.funcNamed "loupe/loupelaw17.QueryStreams" =some 4 by kernel_rfl).symm.trans hf) |>.symm;obtain rfl:fn=Tryz.f4:=(Option.some.inj (func4.symm.trans hfn)).symm;exact⟨by kernel_rfl,fun j t ht=>by
    rw[params4] at ht;have hm:t∈[9]:=(by simpa using Array.mem_of_getElem? ht);have hall:([9].all fun u=> !prog.wantsStandIn u)=true:=ab;exact(show prog.wantsStandIn t=false by simpa using jA.1 hall t hm)⟩)
  dr
#print axioms qstreams_card
end
end Go.Proofs.YtfkekkgfmhcanaaGreatDoor
