/- Texts beside the shared ones. -/
import Derived.Test.YtfkekkgfmhcanaaGreatDoorTS
import Derived.Test.YtfkekkgfmhcanaaGreatDoorTA
import Derived.Test.YtfkekkgfmhcanaaGreatDoorTB
import Derived.Test.YtfkekkgfmhcanaaGreatDoorTC
import Derived.Test.YtfkekkgfmhcanaaGreatDoorTD
import Derived.Test.YtfkekkgfmhcanaaGreatDoorTE
import Derived.Test.YtfkekkgfmhcanaaGreatDoorTF
import Derived.Test.YtfkekkgfmhcanaaGreatDoorTG
import Derived.Test.YtfkekkgfmhcanaaGreatDoorTH
import Derived.Test.YtfkekkgfmhcanaaGreatDoorTI
import Derived.Test.YtfkekkgfmhcanaaGreatDoorTJ
import Derived.Test.YtfkekkgfmhcanaaGreatDoorWZJ
namespace Go.Proofs.YtfkekkgfmhcanaaGreatDoor
open Go.RowKit
open _root_.Go.Act renaming put->aK
open _root_.Go.Lib renaming hid->aB
open _root_.List renaming drop_length->dO,getElem_mem->dS,setIfInBounds_toArray->aA,set_cons_succ->aF,set_cons_zero->aD
open _root_.Nat renaming le_refl->aH,zero_le->dL
open NoPanic renaming normal->bF
set_option maxRecDepth 100000
set_option maxHeartbeats 16000000
section
theorem ySameItems_any{l m:List It}(hlen:l.length<=1000000)(hs:∀i∈l,fC i.x<=1000000){p r:Nat->Prop}{W:World}{sv su:Value}(hR:d2p fIt p W sv l)(hR2:d2p fIt r W su m):Calls Tryz.prog 17 #[sv,su] W fun e w'=>e= .returned (.bool (samesBy sameIt l m))/\Bl W w':=by
 obtain⟨a,cap,rfl,hc⟩:=hR.shape;obtain⟨a2,cap2,rfl,hc2⟩:=hR2.shape;by_cases hl:l.length=m.length
 case neg=>
  rw[samesBy_ne hl];have hl':¬(l.length:Int)=(m.length:Int):=(by omega);have hb:((l.length:Int)==(m.length:Int))=false:=(by simpa using hl');have hb':((l.length:Int) != (m.length:Int))=true:=(by simpa using hl');clear hl hl' hR hR2 hs hlen hc hc2;go_enter Tryz.func17,Tryz.ntmps17;go_wp2;go_ret;exact⟨rfl,Bl.refl W⟩
 have HC:=aB hc;have HC2:=aB hc2;have HLE:=aB hl;have HSM:Hid (∀y∈l,∀(z:It) (w:World) (v u:Value),eO w y.x v->eO w z.x u->Calls Tryz.prog 59 #[v,u] w fun e w'=>e= .returned (.bool (kR y.x z.x))/\Bl w w'):=fun y m z w v u hv hu=>a1o _ y.x z.x (aH _) (hs y m) w v u hv hu;rw[<-hl];obtain⟨R,HRR⟩:∃R,Hid (samesBy sameIt l m=R):=⟨_,rfl⟩
 rw[HRR.o];clear hR hR2 hc hc2 hl hs;go_enter Tryz.func17,Tryz.ntmps17;go_wp2_with fail;go_loopw [5] (fun i wr=>∃j:Nat,j<=l.length/\i= .int .i64 (j:Int)/\Hid (R=samesBy sameIt (l.drop j) (m.drop j))/\Hid (Bl W wr)) (fun i _=>l.length-(intOf i).toNat)
 case atStart=>exact⟨0,dL _,rfl,HRR.o.symm,Bl.refl W⟩
 case round=>
  obtain⟨j,hj,rfl,HD,HB⟩:=hrel;by_cases hlt:j<l.length
  ·have hlt2:j<m.length:=by have:=HLE.o;omega
   obtain⟨b,off,s,rfl,-,hbl,hcs,hr⟩:=HC.o j hlt;obtain⟨b2,off2,s2,rfl,-,hbl2,hcs2,hr2⟩:=HC2.o j hlt2;have HDj:=aB (HD.o.trans (samesBy_drop hlt hlt2));obtain⟨asl,cs,rfl⟩:=hr.shape;obtain⟨asl2,cs2,rfl⟩:=hr2.shape;have HV:=aB (fun(w:World) (hb:Bl W w)=>HSM.o l[j] (dS hlt) m[j] w _ _ ⟨_,rfl,hr.reads.bl hb⟩ ⟨_,rfl,hr2.reads.bl hb⟩)
   replace hcs:=hcs.keep (HB.o.block b hbl)
   replace hcs2:=hcs2.keep (HB.o.block b2 hbl2)
   have hz:=HB.o.size;have hlt':(j:Int)<(l.length:Int):=(by omega);have hlt3:(j:Int)<(m.length:Int):=(by omega);clear hr hr2 HD;generalize l[j]=y at *;generalize m[j]=z at *;obtain⟨st,tt,⟨yk,⟨y1,y2,y3⟩,yt,yn,yo,ya⟩,al⟩:=y;obtain⟨st2,tt2,⟨zk,⟨z1,z2,z3⟩,zt,zn,zo,za⟩,al2⟩:=z;have HCS:=aB (show d2k wr b (off+j * 11) [.bool st,S tt,.int .i64 yk,.int .i64 y1,.int .i64 y2,S y3,S yt,S yn,.int .i64 yo,.slice asl ya.length cs,S al]/\d2k wr b2 (off2+j * 11) [.bool st2,S tt2,.int .i64 zk,.int .i64 z1,.int .i64 z2,S z3,S zt,S zn,.int .i64 zo,.slice asl2 za.length cs2,S al2] from⟨hcs,hcs2⟩);clear hcs hcs2;have HDJ:=aB (show R=((st==st2&&tt==tt2&&al==al2&&kR (.mk yk (y1,y2,y3) yt yn yo ya) (.mk zk (z1,z2,z3) zt zn zo za))&&samesBy sameIt (l.drop (j+1)) (m.drop (j+1))) from HDj.o);clear HDj;go_wp2_with fail;by_cases q1:st=st2;rotate_left
   ·as_aux_lemma=>
    have HN:=aB (show R=false from by rw[HDJ.o,show(st==st2)=false by simpa using q1];rfl);have hb1:(st==st2)=false:=(by simpa using q1);clear q1;refine wp_region_noPanic (bM (fun B=>d2k B b (off+j * 11) [.bool st,S tt,.int .i64 yk,.int .i64 y1,.int .i64 y2,S y3,S yt,S yn,.int .i64 yo,.slice asl ya.length cs,S al]/\d2k B b2 (off2+j * 11) [.bool st2,S tt2,.int .i64 zk,.int .i64 z1,.int .i64 z2,S z3,S zt,S zn,.int .i64 zo,.slice asl2 za.length cs2,S al2]) ((.take 0 (.take 1 (.take 2 (.take 3 (.take 4 (.take 5 (.take 6 (.take 7 (.take 8 (.take 9 (.take 10 (.take 11 (.take 12 (.take 13 (.take 14 (.take 15 (.take 16 (.take 17 (.take 18 (.take 19 (.take 20 (.take 21 (.take 22 (.take 23 (.take 24 (.take 25 (.take 26 (.take 27 (.take 28 (.take 29 (.take 30 (.take 31 (.take 32 (.take 33 (.take 34 (.take 35 (.take 36 (.take 37 (.take 38 (.take 39 (.take 40 (.take 41 (.take 42 (.take 43 (.take 44 (.take 45 (.take 46 (.take 47 (.take 48 (.take 49 (.take 50 .done)))))))))))))))))))))))))))))))))))))))))))))))))))) (by kernel_rfl) (by kernel_rfl) (by kernel_rfl) (fun _ _ _ _ _ h=>h) (⟨HCS.o.1.keep (((Bl.refl _).drew).block b (by omega)),HCS.o.2.keep (((Bl.refl _).drew).block b2 (by omega))⟩) ?_);intro wd HWD hY;iterate 12 (refine aI rfl (by rfl) (by intro w hSw;(try dsimp only at hSw);have e0:=d2k.cell0 (hSw.1) rfl;have e1:=hSw.1 1 _ rfl;have e2:=hSw.1 2 _ rfl;have e3:=hSw.1 3 _ rfl;have e4:=hSw.1 4 _ rfl;have e5:=hSw.1 5 _ rfl;have e6:=hSw.1 6 _ rfl;have e7:=hSw.1 7 _ rfl;have e8:=hSw.1 8 _ rfl;have e9:=hSw.1 9 _ rfl;have e10:=hSw.1 10 _ rfl;have f0:=d2k.cell0 (hSw.2) rfl;have f1:=hSw.2 1 _ rfl;have f2:=hSw.2 2 _ rfl;have f3:=hSw.2 3 _ rfl;have f4:=hSw.2 4 _ rfl;have f5:=hSw.2 5 _ rfl;have f6:=hSw.2 6 _ rfl;have f7:=hSw.2 7 _ rfl;have f8:=hSw.2 8 _ rfl;have f9:=hSw.2 9 _ rfl;have f10:=hSw.2 10 _ rfl;go_simp;(try(first |with_reducible rfl|rfl))) ?_;(try simp only[aK,aA,aD,aF]))
    refine dK rfl (by rfl) ?_;(try simp only[aK,aA,aD,aF])
    refine dK rfl (by rfl) ?_;(try simp only[aK,aA,aD,aF])
    refine dK rfl (by rfl) ?_;(try simp only[aK,aA,aD,aF])
    refine dK rfl (by rfl) ?_;(try simp only[aK,aA,aD,aF])
    refine dK rfl (by rfl) ?_;(try simp only[aK,aA,aD,aF])
    refine dK rfl (by rfl) ?_;(try simp only[aK,aA,aD,aF])
    refine dK rfl (by rfl) ?_;(try simp only[aK,aA,aD,aF])
    refine dK rfl (by rfl) ?_;(try simp only[aK,aA,aD,aF])
    refine dK rfl (by rfl) ?_;(try simp only[aK,aA,aD,aF])
    refine dK rfl (by rfl) ?_;(try simp only[aK,aA,aD,aF])
    refine dK rfl (by rfl) ?_;(try simp only[aK,aA,aD,aF])
    iterate 2 (refine aI rfl (by rfl) (by intro w hSw;(try dsimp only at hSw);have e0:=d2k.cell0 (hSw.1) rfl;have e1:=hSw.1 1 _ rfl;have e2:=hSw.1 2 _ rfl;have e3:=hSw.1 3 _ rfl;have e4:=hSw.1 4 _ rfl;have e5:=hSw.1 5 _ rfl;have e6:=hSw.1 6 _ rfl;have e7:=hSw.1 7 _ rfl;have e8:=hSw.1 8 _ rfl;have e9:=hSw.1 9 _ rfl;have e10:=hSw.1 10 _ rfl;have f0:=d2k.cell0 (hSw.2) rfl;have f1:=hSw.2 1 _ rfl;have f2:=hSw.2 2 _ rfl;have f3:=hSw.2 3 _ rfl;have f4:=hSw.2 4 _ rfl;have f5:=hSw.2 5 _ rfl;have f6:=hSw.2 6 _ rfl;have f7:=hSw.2 7 _ rfl;have f8:=hSw.2 8 _ rfl;have f9:=hSw.2 9 _ rfl;have f10:=hSw.2 10 _ rfl;go_simp;(try(first |with_reducible rfl|rfl))) ?_;(try simp only[aK,aA,aD,aF]))
    refine dK rfl (by rfl) ?_;(try simp only[aK,aA,aD,aF])
    refine dK rfl (by rfl) ?_;(try simp only[aK,aA,aD,aF])
    refine dK rfl (by rfl) ?_;(try simp only[aK,aA,aD,aF])
    refine dK rfl (by rfl) ?_;(try simp only[aK,aA,aD,aF])
    refine dK rfl (by rfl) ?_;(try simp only[aK,aA,aD,aF])
    refine dK rfl (by rfl) ?_;(try simp only[aK,aA,aD,aF])
    refine dK rfl (by rfl) ?_;(try simp only[aK,aA,aD,aF])
    refine dK rfl (by rfl) ?_;(try simp only[aK,aA,aD,aF])
    refine dK rfl (by rfl) ?_;(try simp only[aK,aA,aD,aF])
    refine dK rfl (by rfl) ?_;(try simp only[aK,aA,aD,aF])
    refine dK rfl (by rfl) ?_;(try simp only[aK,aA,aD,aF])
    iterate 2 (refine aI rfl (by rfl) (by intro w hSw;(try dsimp only at hSw);have e0:=d2k.cell0 (hSw.1) rfl;have e1:=hSw.1 1 _ rfl;have e2:=hSw.1 2 _ rfl;have e3:=hSw.1 3 _ rfl;have e4:=hSw.1 4 _ rfl;have e5:=hSw.1 5 _ rfl;have e6:=hSw.1 6 _ rfl;have e7:=hSw.1 7 _ rfl;have e8:=hSw.1 8 _ rfl;have e9:=hSw.1 9 _ rfl;have e10:=hSw.1 10 _ rfl;have f0:=d2k.cell0 (hSw.2) rfl;have f1:=hSw.2 1 _ rfl;have f2:=hSw.2 2 _ rfl;have f3:=hSw.2 3 _ rfl;have f4:=hSw.2 4 _ rfl;have f5:=hSw.2 5 _ rfl;have f6:=hSw.2 6 _ rfl;have f7:=hSw.2 7 _ rfl;have f8:=hSw.2 8 _ rfl;have f9:=hSw.2 9 _ rfl;have f10:=hSw.2 10 _ rfl;go_simp;(try(first |with_reducible rfl|rfl))) ?_;(try simp only[aK,aA,aD,aF]))
    refine dK rfl (by rfl) ?_;(try simp only[aK,aA,aD,aF])
    refine dK rfl (by rfl) ?_;(try simp only[aK,aA,aD,aF])
    refine dK rfl (by rfl) ?_;(try simp only[aK,aA,aD,aF])
    refine dK rfl (by rfl) ?_;(try simp only[aK,aA,aD,aF])
    refine dK rfl (by rfl) ?_;(try simp only[aK,aA,aD,aF])
    refine dK rfl (by rfl) ?_;(try simp only[aK,aA,aD,aF])
    refine dK rfl (by rfl) ?_;(try simp only[aK,aA,aD,aF])
    refine dK rfl (by rfl) ?_;(try simp only[aK,aA,aD,aF])
    refine dK rfl (by rfl) ?_;(try simp only[aK,aA,aD,aF])
    refine dK rfl (by rfl) ?_;(try simp only[aK,aA,aD,aF])
    refine dK rfl (by rfl) ?_;(try simp only[aK,aA,aD,aF])
    refine dK rfl (by rfl) ?_;(try simp only[aK,aA,aD,aF])
    refine aI rfl (by rfl) (by intro w hSw;(try dsimp only at hSw);have e0:=d2k.cell0 (hSw.1) rfl;have e1:=hSw.1 1 _ rfl;have e2:=hSw.1 2 _ rfl;have e3:=hSw.1 3 _ rfl;have e4:=hSw.1 4 _ rfl;have e5:=hSw.1 5 _ rfl;have e6:=hSw.1 6 _ rfl;have e7:=hSw.1 7 _ rfl;have e8:=hSw.1 8 _ rfl;have e9:=hSw.1 9 _ rfl;have e10:=hSw.1 10 _ rfl;have f0:=d2k.cell0 (hSw.2) rfl;have f1:=hSw.2 1 _ rfl;have f2:=hSw.2 2 _ rfl;have f3:=hSw.2 3 _ rfl;have f4:=hSw.2 4 _ rfl;have f5:=hSw.2 5 _ rfl;have f6:=hSw.2 6 _ rfl;have f7:=hSw.2 7 _ rfl;have f8:=hSw.2 8 _ rfl;have f9:=hSw.2 9 _ rfl;have f10:=hSw.2 10 _ rfl;go_simp;(try(first |with_reducible rfl|rfl))) ?_;(try simp only[aK,aA,aD,aF])
    refine fO (bF ?_);clear hY;go_wp2;go_ret;exact⟨by rw[HN.o]<;>rfl,HB.o.call HWD.o⟩
   subst q1;by_cases q2:tt=tt2;rotate_left
   ·as_aux_lemma=>
    have HN:=aB (show R=false from by rw[HDJ.o,show(tt==tt2)=false by simpa using q2];simp);have hb1:(tt==tt2)=false:=(by simpa using q2);clear q2;refine wp_region_noPanic (bM (fun B=>d2k B b (off+j * 11) [.bool st,S tt,.int .i64 yk,.int .i64 y1,.int .i64 y2,S y3,S yt,S yn,.int .i64 yo,.slice asl ya.length cs,S al]/\d2k B b2 (off2+j * 11) [.bool st,S tt2,.int .i64 zk,.int .i64 z1,.int .i64 z2,S z3,S zt,S zn,.int .i64 zo,.slice asl2 za.length cs2,S al2]) ((.take 0 (.take 1 (.take 2 (.take 3 (.take 4 (.take 5 (.take 6 (.take 7 (.take 8 (.take 9 (.take 10 (.take 11 (.take 12 (.take 13 (.take 14 (.take 15 (.take 16 (.take 17 (.take 18 (.take 19 (.take 20 (.take 21 (.take 22 (.take 23 (.take 24 (.take 25 (.take 26 (.take 27 (.take 28 (.take 29 (.take 30 (.take 31 (.take 32 (.take 33 (.take 34 (.take 35 (.take 36 (.take 37 (.take 38 (.take 39 (.take 40 (.take 41 (.take 42 (.take 43 (.take 44 (.take 45 (.take 46 (.take 47 (.take 48 (.take 49 (.take 50 .done)))))))))))))))))))))))))))))))))))))))))))))))))))) (by kernel_rfl) (by kernel_rfl) (by kernel_rfl) (fun _ _ _ _ _ h=>h) (⟨HCS.o.1.keep (((Bl.refl _).drew).block b (by omega)),HCS.o.2.keep (((Bl.refl _).drew).block b2 (by omega))⟩) ?_);intro wd HWD hY;iterate 25 (refine aI rfl (by rfl) (by intro w hSw;(try dsimp only at hSw);have e0:=d2k.cell0 (hSw.1) rfl;have e1:=hSw.1 1 _ rfl;have e2:=hSw.1 2 _ rfl;have e3:=hSw.1 3 _ rfl;have e4:=hSw.1 4 _ rfl;have e5:=hSw.1 5 _ rfl;have e6:=hSw.1 6 _ rfl;have e7:=hSw.1 7 _ rfl;have e8:=hSw.1 8 _ rfl;have e9:=hSw.1 9 _ rfl;have e10:=hSw.1 10 _ rfl;have f0:=d2k.cell0 (hSw.2) rfl;have f1:=hSw.2 1 _ rfl;have f2:=hSw.2 2 _ rfl;have f3:=hSw.2 3 _ rfl;have f4:=hSw.2 4 _ rfl;have f5:=hSw.2 5 _ rfl;have f6:=hSw.2 6 _ rfl;have f7:=hSw.2 7 _ rfl;have f8:=hSw.2 8 _ rfl;have f9:=hSw.2 9 _ rfl;have f10:=hSw.2 10 _ rfl;go_simp;(try(first |with_reducible rfl|rfl))) ?_;(try simp only[aK,aA,aD,aF]))
    refine dK rfl (by rfl) ?_;(try simp only[aK,aA,aD,aF])
    refine dK rfl (by rfl) ?_;(try simp only[aK,aA,aD,aF])
    refine dK rfl (by rfl) ?_;(try simp only[aK,aA,aD,aF])
    refine dK rfl (by rfl) ?_;(try simp only[aK,aA,aD,aF])
    refine dK rfl (by rfl) ?_;(try simp only[aK,aA,aD,aF])
    refine dK rfl (by rfl) ?_;(try simp only[aK,aA,aD,aF])
    refine dK rfl (by rfl) ?_;(try simp only[aK,aA,aD,aF])
    refine dK rfl (by rfl) ?_;(try simp only[aK,aA,aD,aF])
    refine dK rfl (by rfl) ?_;(try simp only[aK,aA,aD,aF])
    refine dK rfl (by rfl) ?_;(try simp only[aK,aA,aD,aF])
    refine dK rfl (by rfl) ?_;(try simp only[aK,aA,aD,aF])
    iterate 2 (refine aI rfl (by rfl) (by intro w hSw;(try dsimp only at hSw);have e0:=d2k.cell0 (hSw.1) rfl;have e1:=hSw.1 1 _ rfl;have e2:=hSw.1 2 _ rfl;have e3:=hSw.1 3 _ rfl;have e4:=hSw.1 4 _ rfl;have e5:=hSw.1 5 _ rfl;have e6:=hSw.1 6 _ rfl;have e7:=hSw.1 7 _ rfl;have e8:=hSw.1 8 _ rfl;have e9:=hSw.1 9 _ rfl;have e10:=hSw.1 10 _ rfl;have f0:=d2k.cell0 (hSw.2) rfl;have f1:=hSw.2 1 _ rfl;have f2:=hSw.2 2 _ rfl;have f3:=hSw.2 3 _ rfl;have f4:=hSw.2 4 _ rfl;have f5:=hSw.2 5 _ rfl;have f6:=hSw.2 6 _ rfl;have f7:=hSw.2 7 _ rfl;have f8:=hSw.2 8 _ rfl;have f9:=hSw.2 9 _ rfl;have f10:=hSw.2 10 _ rfl;go_simp;(try(first |with_reducible rfl|rfl))) ?_;(try simp only[aK,aA,aD,aF]))
    refine dK rfl (by rfl) ?_;(try simp only[aK,aA,aD,aF])
    refine dK rfl (by rfl) ?_;(try simp only[aK,aA,aD,aF])
    refine dK rfl (by rfl) ?_;(try simp only[aK,aA,aD,aF])
    refine dK rfl (by rfl) ?_;(try simp only[aK,aA,aD,aF])
    refine dK rfl (by rfl) ?_;(try simp only[aK,aA,aD,aF])
    refine dK rfl (by rfl) ?_;(try simp only[aK,aA,aD,aF])
    refine dK rfl (by rfl) ?_;(try simp only[aK,aA,aD,aF])
    refine dK rfl (by rfl) ?_;(try simp only[aK,aA,aD,aF])
    refine dK rfl (by rfl) ?_;(try simp only[aK,aA,aD,aF])
    refine dK rfl (by rfl) ?_;(try simp only[aK,aA,aD,aF])
    refine dK rfl (by rfl) ?_;(try simp only[aK,aA,aD,aF])
    refine dK rfl (by rfl) ?_;(try simp only[aK,aA,aD,aF])
    refine aI rfl (by rfl) (by intro w hSw;(try dsimp only at hSw);have e0:=d2k.cell0 (hSw.1) rfl;have e1:=hSw.1 1 _ rfl;have e2:=hSw.1 2 _ rfl;have e3:=hSw.1 3 _ rfl;have e4:=hSw.1 4 _ rfl;have e5:=hSw.1 5 _ rfl;have e6:=hSw.1 6 _ rfl;have e7:=hSw.1 7 _ rfl;have e8:=hSw.1 8 _ rfl;have e9:=hSw.1 9 _ rfl;have e10:=hSw.1 10 _ rfl;have f0:=d2k.cell0 (hSw.2) rfl;have f1:=hSw.2 1 _ rfl;have f2:=hSw.2 2 _ rfl;have f3:=hSw.2 3 _ rfl;have f4:=hSw.2 4 _ rfl;have f5:=hSw.2 5 _ rfl;have f6:=hSw.2 6 _ rfl;have f7:=hSw.2 7 _ rfl;have f8:=hSw.2 8 _ rfl;have f9:=hSw.2 9 _ rfl;have f10:=hSw.2 10 _ rfl;go_simp;(try(first |with_reducible rfl|rfl))) ?_;(try simp only[aK,aA,aD,aF])
    refine fO (bF ?_);clear hY;go_wp2;go_ret;exact⟨by rw[HN.o]<;>rfl,HB.o.call HWD.o⟩
   subst q2;by_cases q3:al=al2;rotate_left
   ·as_aux_lemma=>
    have HN:=aB (show R=false from by rw[HDJ.o,show(al==al2)=false by simpa using q3];simp);have hb1:(al==al2)=false:=(by simpa using q3);clear q3;refine wp_region_noPanic (bM (fun B=>d2k B b (off+j * 11) [.bool st,S tt,.int .i64 yk,.int .i64 y1,.int .i64 y2,S y3,S yt,S yn,.int .i64 yo,.slice asl ya.length cs,S al]/\d2k B b2 (off2+j * 11) [.bool st,S tt,.int .i64 zk,.int .i64 z1,.int .i64 z2,S z3,S zt,S zn,.int .i64 zo,.slice asl2 za.length cs2,S al2]) ((.take 0 (.take 1 (.take 2 (.take 3 (.take 4 (.take 5 (.take 6 (.take 7 (.take 8 (.take 9 (.take 10 (.take 11 (.take 12 (.take 13 (.take 14 (.take 15 (.take 16 (.take 17 (.take 18 (.take 19 (.take 20 (.take 21 (.take 22 (.take 23 (.take 24 (.take 25 (.take 26 (.take 27 (.take 28 (.take 29 (.take 30 (.take 31 (.take 32 (.take 33 (.take 34 (.take 35 (.take 36 (.take 37 (.take 38 (.take 39 (.take 40 (.take 41 (.take 42 (.take 43 (.take 44 (.take 45 (.take 46 (.take 47 (.take 48 (.take 49 (.take 50 .done)))))))))))))))))))))))))))))))))))))))))))))))))))) (by kernel_rfl) (by kernel_rfl) (by kernel_rfl) (fun _ _ _ _ _ h=>h) (⟨HCS.o.1.keep (((Bl.refl _).drew).block b (by omega)),HCS.o.2.keep (((Bl.refl _).drew).block b2 (by omega))⟩) ?_);intro wd HWD hY;iterate 38 (refine aI rfl (by rfl) (by intro w hSw;(try dsimp only at hSw);have e0:=d2k.cell0 (hSw.1) rfl;have e1:=hSw.1 1 _ rfl;have e2:=hSw.1 2 _ rfl;have e3:=hSw.1 3 _ rfl;have e4:=hSw.1 4 _ rfl;have e5:=hSw.1 5 _ rfl;have e6:=hSw.1 6 _ rfl;have e7:=hSw.1 7 _ rfl;have e8:=hSw.1 8 _ rfl;have e9:=hSw.1 9 _ rfl;have e10:=hSw.1 10 _ rfl;have f0:=d2k.cell0 (hSw.2) rfl;have f1:=hSw.2 1 _ rfl;have f2:=hSw.2 2 _ rfl;have f3:=hSw.2 3 _ rfl;have f4:=hSw.2 4 _ rfl;have f5:=hSw.2 5 _ rfl;have f6:=hSw.2 6 _ rfl;have f7:=hSw.2 7 _ rfl;have f8:=hSw.2 8 _ rfl;have f9:=hSw.2 9 _ rfl;have f10:=hSw.2 10 _ rfl;go_simp;(try(first |with_reducible rfl|rfl))) ?_;(try simp only[aK,aA,aD,aF]))
    refine dK rfl (by rfl) ?_;(try simp only[aK,aA,aD,aF])
    refine dK rfl (by rfl) ?_;(try simp only[aK,aA,aD,aF])
    refine dK rfl (by rfl) ?_;(try simp only[aK,aA,aD,aF])
    refine dK rfl (by rfl) ?_;(try simp only[aK,aA,aD,aF])
    refine dK rfl (by rfl) ?_;(try simp only[aK,aA,aD,aF])
    refine dK rfl (by rfl) ?_;(try simp only[aK,aA,aD,aF])
    refine dK rfl (by rfl) ?_;(try simp only[aK,aA,aD,aF])
    refine dK rfl (by rfl) ?_;(try simp only[aK,aA,aD,aF])
    refine dK rfl (by rfl) ?_;(try simp only[aK,aA,aD,aF])
    refine dK rfl (by rfl) ?_;(try simp only[aK,aA,aD,aF])
    refine dK rfl (by rfl) ?_;(try simp only[aK,aA,aD,aF])
    refine dK rfl (by rfl) ?_;(try simp only[aK,aA,aD,aF])
    refine aI rfl (by rfl) (by intro w hSw;(try dsimp only at hSw);have e0:=d2k.cell0 (hSw.1) rfl;have e1:=hSw.1 1 _ rfl;have e2:=hSw.1 2 _ rfl;have e3:=hSw.1 3 _ rfl;have e4:=hSw.1 4 _ rfl;have e5:=hSw.1 5 _ rfl;have e6:=hSw.1 6 _ rfl;have e7:=hSw.1 7 _ rfl;have e8:=hSw.1 8 _ rfl;have e9:=hSw.1 9 _ rfl;have e10:=hSw.1 10 _ rfl;have f0:=d2k.cell0 (hSw.2) rfl;have f1:=hSw.2 1 _ rfl;have f2:=hSw.2 2 _ rfl;have f3:=hSw.2 3 _ rfl;have f4:=hSw.2 4 _ rfl;have f5:=hSw.2 5 _ rfl;have f6:=hSw.2 6 _ rfl;have f7:=hSw.2 7 _ rfl;have f8:=hSw.2 8 _ rfl;have f9:=hSw.2 9 _ rfl;have f10:=hSw.2 10 _ rfl;go_simp;(try(first |with_reducible rfl|rfl))) ?_;(try simp only[aK,aA,aD,aF])
    refine fO (bF ?_);clear hY;go_wp2;go_ret;exact⟨by rw[HN.o]<;>rfl,HB.o.call HWD.o⟩
   subst q3;refine wp_region_noPanic (bM (fun B=>d2k B b (off+j * 11) [.bool st,S tt,.int .i64 yk,.int .i64 y1,.int .i64 y2,S y3,S yt,S yn,.int .i64 yo,.slice asl ya.length cs,S al]/\d2k B b2 (off2+j * 11) [.bool st,S tt,.int .i64 zk,.int .i64 z1,.int .i64 z2,S z3,S zt,S zn,.int .i64 zo,.slice asl2 za.length cs2,S al]) ((.take 0 (.take 1 (.take 2 (.take 3 (.take 4 (.take 5 (.take 6 (.take 7 (.take 8 (.take 9 (.take 10 (.take 11 (.take 12 (.take 13 (.take 14 (.take 15 (.take 16 (.take 17 (.take 18 (.take 19 (.take 20 (.take 21 (.take 22 (.take 23 (.take 24 (.take 25 (.take 26 (.take 27 (.take 28 (.take 29 (.take 30 (.take 31 (.take 32 (.take 33 (.take 34 (.take 35 (.take 36 (.take 37 (.take 38 (.take 39 (.take 40 (.take 41 (.take 42 (.take 43 (.take 44 (.take 45 (.take 46 (.take 47 (.one 48 (.take 49 (.take 50 .done)))))))))))))))))))))))))))))))))))))))))))))))))))) (by kernel_rfl) (by kernel_rfl) (by kernel_rfl) (fun _ _ _ _ _ h=>h) (⟨HCS.o.1.keep (((Bl.refl _).drew).block b (by omega)),HCS.o.2.keep (((Bl.refl _).drew).block b2 (by omega))⟩) ?_);intro wd HWD hY;iterate 48 (refine aI rfl (by rfl) (by intro w hSw;(try dsimp only at hSw);have e0:=d2k.cell0 (hSw.1) rfl;have e1:=hSw.1 1 _ rfl;have e2:=hSw.1 2 _ rfl;have e3:=hSw.1 3 _ rfl;have e4:=hSw.1 4 _ rfl;have e5:=hSw.1 5 _ rfl;have e6:=hSw.1 6 _ rfl;have e7:=hSw.1 7 _ rfl;have e8:=hSw.1 8 _ rfl;have e9:=hSw.1 9 _ rfl;have e10:=hSw.1 10 _ rfl;have f0:=d2k.cell0 (hSw.2) rfl;have f1:=hSw.2 1 _ rfl;have f2:=hSw.2 2 _ rfl;have f3:=hSw.2 3 _ rfl;have f4:=hSw.2 4 _ rfl;have f5:=hSw.2 5 _ rfl;have f6:=hSw.2 6 _ rfl;have f7:=hSw.2 7 _ rfl;have f8:=hSw.2 8 _ rfl;have f9:=hSw.2 9 _ rfl;have f10:=hSw.2 10 _ rfl;go_simp;(try(first |with_reducible rfl|rfl))) ?_;(try simp only[aK,aA,aD,aF]))
   refine aL rfl (fun K hK=>?_);go_simp;(refine(HV.o _ (HB.o.call HWD.o)).mono ?_;rintro e w3 ⟨rfl,hb3⟩;have hb:=hb3);go_wp2_with fail;refine hK.o _ _ (⟨hY.1.keep (hb.block b (hY.1.lt (Nat.succ_pos _))),hY.2.keep (hb.block b2 (hY.2.lt (Nat.succ_pos _)))⟩) ?_;clear hY hK K;intro hY;clear hb;iterate 2 (refine aI rfl (by rfl) (by intro w hSw;(try dsimp only at hSw);have e0:=d2k.cell0 (hSw.1) rfl;have e1:=hSw.1 1 _ rfl;have e2:=hSw.1 2 _ rfl;have e3:=hSw.1 3 _ rfl;have e4:=hSw.1 4 _ rfl;have e5:=hSw.1 5 _ rfl;have e6:=hSw.1 6 _ rfl;have e7:=hSw.1 7 _ rfl;have e8:=hSw.1 8 _ rfl;have e9:=hSw.1 9 _ rfl;have e10:=hSw.1 10 _ rfl;have f0:=d2k.cell0 (hSw.2) rfl;have f1:=hSw.2 1 _ rfl;have f2:=hSw.2 2 _ rfl;have f3:=hSw.2 3 _ rfl;have f4:=hSw.2 4 _ rfl;have f5:=hSw.2 5 _ rfl;have f6:=hSw.2 6 _ rfl;have f7:=hSw.2 7 _ rfl;have f8:=hSw.2 8 _ rfl;have f9:=hSw.2 9 _ rfl;have f10:=hSw.2 10 _ rfl;go_simp;(try(first |with_reducible rfl|rfl))) ?_;(try simp only[aK,aA,aD,aF]))
   refine fO (bF ?_);have HB1:=aB ((HB.o.call HWD.o).call hb3);clear hY hb3;cases hs:kR (.mk yk (y1,y2,y3) yt yn yo ya) (.mk zk (z1,z2,z3) zt zn zo za)
   ·have HN:=aB (show R=false from by rw[HDJ.o,hs];simp);clear hs;go_wp2;go_ret;exact⟨by rw[HN.o]<;>rfl,HB1.o⟩
   have HN:=aB (show R=samesBy sameIt (l.drop (j+1)) (m.drop (j+1)) from by rw[HDJ.o,hs];simp);clear hs;go_wp2;go_roundw
   case rel=>exact⟨j+1,by omega,by go_num,HN.o,HB1.o⟩
   case measure=>simp[intOf];omega
  ·obtain rfl:j=l.length:=by omega
   have HN:=aB (show R=true from by rw[HD.o,dO,HLE.o,dO];rfl);go_wp2;go_ret;exact⟨by rw[HN.o]<;>rfl,HB.o⟩
end
end Go.Proofs.YtfkekkgfmhcanaaGreatDoor
