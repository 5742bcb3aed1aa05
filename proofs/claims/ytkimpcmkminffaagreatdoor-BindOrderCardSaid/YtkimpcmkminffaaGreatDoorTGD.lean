/- Texts beside the shared ones. -/
import Derived.Test.YtkimpcmkminffaaGreatDoorTX0
namespace Go.Proofs.YtkimpcmkminffaaGreatDoor
open Go.RowKit
open _root_.Go.Act renaming put->aK
open _root_.Array renaming getElem?_eq_some_iff->aC
open _root_.Go.RowKit.Below renaming grown->iL
open _root_.Go.Lib renaming cell_of_heap->aG,hid->aB
open _root_.List renaming getElem?_take->rA,setIfInBounds_toArray->aA,set_cons_succ->aF,set_cons_zero->aD
open _root_.Nat renaming le_refl->aH
open NoPanic renaming normal->bF
open _root_.Option renaming map_some->lX
set_option maxRecDepth 100000
set_option maxHeartbeats 8000000
section
theorem hat_bl{w w':World}(h:(w.alloc (.cells #[] 36)).grownBy w' (some w.heap.size)):Bl w w':=iL ((Bl.refl w).alloc _) h ((Bl.refl w).alloc (.cells #[] 36)).size (fun j hj=>by injection hj with hj;omega)
theorem own_sv(W:World):(W.alloc (.cells #[] 36)).ownsRow W.heap.size 36 1 (.slice (some ⟨W.heap.size,0,none⟩) 0 0) 0 []:=
 ⟨rfl,.inr ⟨W.heap.size,0,#[],rfl,aH _,aN W _,aH _,by unfold maxLen;omega,rfl,rfl⟩⟩
theorem border_good(b:Bd)(q:Nat)(i j:Nat)(hi:i<q)(hj:j<q)(hq:q<=20)(W:World)(v:Value)(rb ro rc:Nat)(z1:Nat)(hv:ReadsD W b v)(hk:b.k=5)(h1:z1<=20)
  (HS1:Hid (∀W',Bl W W'->Calls Tryz.prog 5 #[v,.int .i64 20] W' fun e w'=>e= .returned (.int .i64 (z1:Int))/\Bl W' w')) (HWO:Hid (∀W',Bl W W'->Calls Tryz.prog 7 #[] W' fun e w'=>e= .returned (.bool true)/\Bl W' w'))
  (HSL:Hid (∀(W':World),Bl W W'->Calls Tryz.prog 6 #[.slice (some ⟨rb,ro,none⟩) q rc] W' fun e w'=>e= .returned (.bool true)/\W'=w'))
  (sl:List Value) (hsl:sl.length=q) (hcs:∀(k:Nat) u,sl[k]?=some u->W.cell? ((⟨rb,ro,none⟩:Addr).add k)=some u) (hbl:∀(k:Nat) u,sl[k]?=some u->rb<W.heap.size) (hone:∀u∈sl,u.oneCell'=true)
  (ai aj:Option Addr) (ni ci nj cj:Nat) (hsi:sl[i]?=some (.slice ai ni ci)) (hsj:sl[j]?=some (.slice aj nj cj))
  (r1 r2 ec s1 s2 fc:Int) (r3 s3:List UInt8)
  (HE1:Hid (∀W',Bl W W'->Calls Tryz.prog 8 #[v,.slice (some ⟨rb,ro,none⟩) q rc] W' fun e w'=>e= .returned (.tuple #[.agg #[.int .i64 r1,.int .i64 r2,S r3],.int .i64 ec])/\Bl W' w'))
  (HE2:Hid (∀(W':World) (g c:Nat) (cl:List Value),Bl W W'->W'.heap[g]?=some (.cells cl.toArray 36 (0,0))->cl.take q=(sl.set i (.slice aj nj cj)).set j (.slice ai ni ci)->Calls Tryz.prog 8 #[v,.slice (some ⟨g,0,none⟩) q c] W' fun e w'=>e= .returned (.tuple #[.agg #[.int .i64 s1,.int .i64 s2,S s3],.int .i64 fc])/\Bl W' w'))
  (hy:ec=0->s1=r1/\s2=r2/\s3=r3/\fc=0/\I64 r1) (hn:ec≠0->fc≠0):Calls Tryz.prog 3 #[v,.slice (some ⟨rb,ro,none⟩) q rc,.agg #[.int .i64 (i:Int),.int .i64 (j:Int)]] W (Yes W):=by
 have HCS:=aB hcs;have HBL:=aB hbl;have HY:=aB hy;have HN:=aB hn;have HSI:=aB hsi;have HSJ:=aB hsj;have HONE:=aB hone;have HSLN:=aB hsl;obtain⟨i0,hi0,hz0,hz1,hz2⟩:∃i,Tryz.prog.info? 36=some i/\i.zero=some (.slice none 0 0)/\i.size=1/\i.bytes=24:=by
  have hT:=svFull;cases h:Tryz.prog.info? 36 with
  |none=>rw[h] at hT;cases hT
  |some i=>
   rw[h] at hT;simp only[lX,Option.some.injEq,Prod.mk.injEq] at hT;exact⟨i,rfl,hT.1,hT.2.1,hT.2.2⟩
 clear hcs hbl hy hn hsi hsj hone hsl;obtain⟨x,hx⟩:∃x:Int,(i:Int)=x:=⟨_,rfl⟩
 obtain⟨y,hyy⟩:∃y:Int,(j:Int)=y:=⟨_,rfl⟩
 rw[hx,hyy];obtain⟨sv,rfl,hL⟩:=hv;obtain⟨a1,cap,rfl,-⟩:=hL.shape;clear hL;obtain⟨k,t,⟨v1,v2,v3⟩,p,o,n,args⟩:=b;simp only[Bd.k,Bd.t,Bd.v,Bd.p,Bd.o,Bd.n,Bd.args] at *;generalize args.length=m at *;have HF0:=aB (OrF.start (cellsB k t v1 v2 v3 p o n (.slice a1 m cap)) x y W);obtain⟨e0,e1,e2,e3,e4,e5,e6,e7,e8⟩:=nine HF0.o.x;subst hk;subst hx;subst hyy;have hx0:¬(i:Int)<0:=(by omega);have hx2:¬(q:Int)<=(i:Int):=(by omega);have hy0:¬(j:Int)<0:=(by omega);have hy2:¬(q:Int)<=(j:Int):=(by omega);have g1:¬(20:Int)<(z1:Int):=(by omega);clear h1;go_enter Tryz.func3,Tryz.ntmps3;go_wp2_with fail;refine(HS1.o _ HF0.o.bl).mono ?_;rintro e w1 ⟨rfl,hb1⟩;have HF1:=aB (HF0.o.call hb1);clear hb1 e0 e1 e2 e3 e4 e5 e6 e7 e8;obtain⟨e0,e1,e2,e3,e4,e5,e6,e7,e8⟩:=nine HF1.o.x;obtain⟨f0,f1⟩:=twoC20 HF1.o.y;go_wp2_with fail;refine(HSL.o _ HF1.o.bl).mono ?_;rintro e w2 ⟨rfl,rfl⟩;have HCW:=aB (fun(k:Nat) u (h:sl[k]?=some u)=>Bl.cell HF1.o.bl (HCS.o k u h));have HOWN:=aB (own_sv w1);have HQ3:=aB hq;go_wp2_with (at_builtin;go_loud (refine wpList_append_own_at _ rfl (.tmp 50) (.tmp 51) 31 rfl w1.heap.size 36 i0 (.slice none 0 0) 1 24 Tryz.underlying31 hi0 hz0 hz1 hz2 rfl (by decide) (.slice (some ⟨w1.heap.size,0,none⟩) 0 0) 0 [] rfl HOWN.o ⟨rb,ro,none⟩ q rc sl rfl (by rw[HSLN.o,Nat.mul_one]) (fun k u h=>Bl.cell ((Bl.refl w1).alloc _) (HCW.o k u h)) HONE.o (by unfold maxLen;omega) (by omega) (by simp) ?_))
 intro v' w2 hown2 hgrow2 hnil hat;have hB2:=hat_bl hgrow2;clear hgrow2 hnil hat;have hown3:w2.ownsRow w1.heap.size 36 1 v' q sl:=(by simpa using hown2);clear hown2;obtain⟨-,⟨-,h0⟩|⟨g,cap2,cur,rfl,hge,hg,hqc,-,hsz,htake⟩⟩:=hown3
 ·omega
 obtain⟨cl,rfl⟩:∃cl:List Value,cur=cl.toArray:=⟨cur.toList,rfl⟩
 have HG:=aB hg;have HGE:=aB hge;have hcl:cl.length=cap2:=(by simpa using hsz);have HCL:=aB (show q<=cl.length by omega);have HTK:=aB (show cl.take q=sl by simpa using htake);have at1:∀(k:Nat) u,sl[k]?=some u->w2.cell? ⟨g,k,none⟩=some u:=fun k u h=>by
  rw[aG HG.o];rw[<-HTK.o,rA] at h;split at h
  ·simpa using h
  ·cases h
 have c10:=at1 j _ HSJ.o;have c15:=at1 i _ HSI.o;clear at1 hge hg hsz htake hcl e0 e1 e2 e3 e4 e5 e6 e7 e8 f0 f1;have HB2:=aB hB2;clear hB2
 go_upto_region 4 with fail
 refine wp_region_noPanic (qP (fun B=>Bl w1 B) ((.take 0 (.take 1 (.take 2 (.take 3 (.take 4 (.take 5 (.take 6 (.take 7 (.take 8 (.take 9 (.take 11 (.take 12 (.take 13 (.take 14 (.two 10 15 (.one 15 (.take 16 (.one 17 (.take 18 (.one 19 .done))))) (.one 10 (.take 16 (.one 17 (.take 18 (.one 19 .done))))))))))))))))))))) (by kernel_rfl) (by kernel_rfl) (by kernel_rfl) (fun _ _ _ _ _ h=>h) ((HB2.o.drew)) ?_);have hY:=(HB2.o.drew)
 iterate 14 (refine aI rfl (by rfl) (by intro w hSw;(try dsimp only at hSw);obtain⟨f0,f1⟩:=twoC20 (keep_b HF1.o.y hSw);go_simp;(try(first |with_reducible rfl|rfl))) ?_;(try simp only[aK,aA,aD,aF]))
 refine sZ ?_ ?_
 focus
  refine aL rfl (fun K hK=>?_);go_simp;refine hK.o _ _ (hY) ?_;clear hY hK K;intro hY;refine aL rfl (fun K hK=>?_);go_simp;refine hK.o _ _ (hY) ?_;clear hY hK K;intro hY;refine aI rfl (by rfl) (by intro w hSw;(try dsimp only at hSw);obtain⟨f0,f1⟩:=twoC20 (keep_b HF1.o.y hSw);go_simp;(try(first |with_reducible rfl|rfl))) ?_;(try simp only[aK,aA,aD,aF])
  refine aL rfl (fun K hK=>?_);rw[if_pos (by rfl)];refine bC rfl (g:=g) (i:=i) (vs:=[.slice aj nj cj]) rfl rfl (cl.set i (.slice aj nj cj)) HG.o (put_set20 (by have:=HCL.o;omega)) (decide_eq_true (by have:=HCL.o;simp;omega)) svInfo rfl ?_;intro w7 hB7 hX7;refine hK.o _ _ (hB7.bl hY HGE.o) ?_;clear hY hK K;intro hY;(try simp only[aK])
  refine aI rfl (by rfl) (by intro w hSw;(try dsimp only at hSw);obtain⟨f0,f1⟩:=twoC20 (keep_b HF1.o.y hSw);go_simp;(try(first |with_reducible rfl|rfl))) ?_;(try simp only[aK,aA,aD,aF])
  refine aL rfl (fun K hK=>?_);rw[if_pos (by rfl)];refine bC rfl (g:=g) (i:=j) (vs:=[.slice ai ni ci]) rfl rfl ((cl.set i (.slice aj nj cj)).set j (.slice ai ni ci)) hX7 (put_set20 (by have:=HCL.o;simp;omega)) (decide_eq_true (by have:=HCL.o;simp;omega)) svInfo rfl ?_;intro w8 hB8 hX8;refine hK.o _ _ (hB8.bl hY HGE.o) ?_;clear hY hK K;intro hY;(try simp only[aK])
  refine fO (bF ?_)
 rotate_left 1
 focus
  refine aL rfl (fun K hK=>?_);go_simp;refine hK.o _ _ (hY) ?_;clear hY hK K;intro hY;refine aL rfl (fun K hK=>?_);go_simp;refine hK.o _ _ (hY) ?_;clear hY hK K;intro hY;refine aI rfl (by rfl) (by intro w hSw;(try dsimp only at hSw);obtain⟨f0,f1⟩:=twoC20 (keep_b HF1.o.y hSw);go_simp;(try(first |with_reducible rfl|rfl))) ?_;(try simp only[aK,aA,aD,aF])
  refine aL rfl (fun K hK=>?_);rw[if_pos (by rfl)];refine bC rfl (g:=g) (i:=i) (vs:=[.slice aj nj cj]) rfl rfl (cl.set i (.slice aj nj cj)) HG.o (put_set20 (by have:=HCL.o;omega)) (decide_eq_true (by have:=HCL.o;simp;omega)) svInfo rfl ?_;intro w7 hB7 hX7;refine hK.o _ _ (hB7.bl hY HGE.o) ?_;clear hY hK K;intro hY;(try simp only[aK])
  refine aI rfl (by rfl) (by intro w hSw;(try dsimp only at hSw);obtain⟨f0,f1⟩:=twoC20 (keep_b HF1.o.y hSw);go_simp;(try(first |with_reducible rfl|rfl))) ?_;(try simp only[aK,aA,aD,aF])
  refine aL rfl (fun K hK=>?_);rw[if_pos (by rfl)];refine bC rfl (g:=g) (i:=j) (vs:=[.slice ai ni ci]) rfl rfl ((cl.set i (.slice aj nj cj)).set j (.slice ai ni ci)) hX7 (put_set20 (by have:=HCL.o;simp;omega)) (decide_eq_true (by have:=HCL.o;simp;omega)) svInfo rfl ?_;intro w8 hB8 hX8;refine hK.o _ _ (hB8.bl hY HGE.o) ?_;clear hY hK K;intro hY;(try simp only[aK])
  refine fO (bF ?_)
 ·skip
  have HF3:=aB (HF1.o.call hY);have HX3:=aB hX8;have HT3:=aB (show((cl.set i (.slice aj nj cj)).set j (.slice ai ni ci)).take q=(sl.set i (.slice aj nj cj)).set j (.slice ai ni ci) by rw[List.take_set,List.take_set,HTK.o]);clear hX8 hY hX7 hB7 hB8 HG HTK;generalize (cl.set i (.slice aj nj cj)).set j (.slice ai ni ci)=cn at *;obtain⟨e0,e1,e2,e3,e4,e5,e6,e7,e8⟩:=nine HF3.o.x;go_wp2_with fail;refine(HE1.o _ HF3.o.bl).mono ?_;rintro e w3 ⟨rfl,hb3⟩;have HF4:=aB ((HF3.o.call hb3).call ((Bl.refl w3).alloc (.cells #[.int .i64 r1,.int .i64 r2,S r3] 26)));have HX4:=aB (keep_b (keep_b HX3.o hb3) ((Bl.refl w3).alloc (.cells #[.int .i64 r1,.int .i64 r2,S r3] 26)));have HY4:=aB (aN w3 (.cells #[.int .i64 r1,.int .i64 r2,S r3] 26));clear hb3 HX3 e0 e1 e2 e3 e4 e5 e6 e7 e8;obtain⟨n3,hn3⟩:∃n3,w3.heap.size=n3:=⟨_,rfl⟩
  go_upto_region 6 with fail
  obtain⟨u,hu⟩:∃u,w3.alloc (.cells #[.int .i64 r1,.int .i64 r2,S r3] 26)=u:=⟨_,rfl⟩
  change Code.wp _ _ _ _ (w3.alloc (.cells #[.int .i64 r1,.int .i64 r2,S r3] 26));rw[hu] at HF4 HX4 HY4⊢
  try rw[hn3] at HY4
  try rw[hn3]
  clear hu hn3;obtain⟨e0,e1,e2,e3,e4,e5,e6,e7,e8⟩:=nine HF4.o.x;go_wp2_with fail;refine(HE2.o _ g cap2 cn HF4.o.bl HX4.o HT3.o).mono ?_;rintro e w4 ⟨rfl,hb4⟩;have HF5:=aB ((HF4.o.call hb4).call ((Bl.refl w4).alloc (.cells #[.int .i64 s1,.int .i64 s2,S s3] 26)));have HY5:=aB (keep_b (keep_b HY4.o hb4) ((Bl.refl w4).alloc (.cells #[.int .i64 s1,.int .i64 s2,S s3] 26)));have HZ5:=aB (aN w4 (.cells #[.int .i64 s1,.int .i64 s2,S s3] 26));clear hb4 HX4 HY4 e0 e1 e2 e3 e4 e5 e6 e7 e8;obtain⟨n4,hn4⟩:∃n4,w4.heap.size=n4:=⟨_,rfl⟩
  go_upto_region 7 with fail
  obtain⟨u2,hu⟩:∃u,w4.alloc (.cells #[.int .i64 s1,.int .i64 s2,S s3] 26)=u:=⟨_,rfl⟩
  change Code.wp _ _ _ _ (w4.alloc (.cells #[.int .i64 s1,.int .i64 s2,S s3] 26));rw[hu] at HF5 HY5 HZ5⊢
  try rw[hn4] at HZ5
  try rw[hn4]
  clear hu hn4;have HF6:=aB HF5.o;by_cases hec:ec=0
  ·obtain⟨rfl,rfl,rfl,rfl,hk1⟩:=HY.o hec;subst hec;obtain⟨p0,p1,p2⟩:=three3 HY5.o;obtain⟨q0,q1,q2⟩:=three3 HZ5.o;go_wp2_with fail
   (with_reducible refine(num20_any _ _).mono ?_)
   rintro e w' ⟨rfl,rfl⟩;go_wp2_with fail
   (with_reducible refine(num20_any _ _).mono ?_)
   rintro e w' ⟨rfl,rfl⟩;obtain⟨q3,q4,q5⟩:=three3 (keep_b HZ5.o ((Bl.refl u2).alloc (.cells #[.int .i64 s1,.int .i64 s2,S s3] 26)));have hn4:¬n4=u2.heap.size:=fun h=>(by have:=(aC.1 HZ5.o).1;omega);go_wp2_with (first |(refine d8l (vs:=[.int .i64 s1,.int .i64 s2,S s3]) rfl (t:=36) (y:= .tmp 101) rfl Tryz.underlying36 rfl vl1 rfl ?_)|(refine d8l (vs:=[.int .i64 s1,.int .i64 s2,S s3]) rfl (t:=36) (y:= .tmp 103) rfl Tryz.underlying36 rfl vl1 rfl ?_))
   refine(oOrder_same s1 s2 s3 hk1 _ _ _ (t1:=26) (t2:=26) ((aW _ _ (by simp)).trans (aN _ _)) (aV _ _ (by simp))).mono ?_;rintro e w7 ⟨rfl,hb7⟩;have HF7:=aB ((HF6.o.call (((Bl.refl _).alloc _).alloc _)).call hb7);go_wp2_with fail;refine(HWO.o _ (HF7.o).bl).mono ?_;rintro e w9 ⟨rfl,hb9⟩;go_wp2;go_ret;exact⟨by first |rfl|trivial,(HF7.o).bl.call hb9⟩
  ·have hfc:=HN.o hec;have gc:(ec != 0)=true:=(by simpa using hec);have gc2:(ec==0)=false:=(by simpa using hec);have gf2:(fc==0)=false:=(by simpa using hfc);go_wp2_with fail
   (with_reducible refine(num20_any _ _).mono ?_)
   rintro e w' ⟨rfl,rfl⟩;go_wp2_with fail
   (with_reducible refine(num20_any _ _).mono ?_)
   rintro e w' ⟨rfl,rfl⟩;go_wp2_with fail
   (with_reducible refine(num20_any _ _).mono ?_)
   rintro e w' ⟨rfl,rfl⟩;go_wp2_with fail;refine(HWO.o _ (HF6.o).bl).mono ?_;rintro e w9 ⟨rfl,hb9⟩;go_wp2;go_ret;exact⟨by first |rfl|trivial,(HF6.o).bl.call hb9⟩
 ·skip
  have HF3:=aB (HF1.o.call hY);have HX3:=aB hX8;have HT3:=aB (show((cl.set i (.slice aj nj cj)).set j (.slice ai ni ci)).take q=(sl.set i (.slice aj nj cj)).set j (.slice ai ni ci) by rw[List.take_set,List.take_set,HTK.o]);clear hX8 hY hX7 hB7 hB8 HG HTK;generalize (cl.set i (.slice aj nj cj)).set j (.slice ai ni ci)=cn at *;obtain⟨e0,e1,e2,e3,e4,e5,e6,e7,e8⟩:=nine HF3.o.x;go_wp2_with fail;refine(HE1.o _ HF3.o.bl).mono ?_;rintro e w3 ⟨rfl,hb3⟩;have HF4:=aB ((HF3.o.call hb3).call ((Bl.refl w3).alloc (.cells #[.int .i64 r1,.int .i64 r2,S r3] 26)));have HX4:=aB (keep_b (keep_b HX3.o hb3) ((Bl.refl w3).alloc (.cells #[.int .i64 r1,.int .i64 r2,S r3] 26)));have HY4:=aB (aN w3 (.cells #[.int .i64 r1,.int .i64 r2,S r3] 26));clear hb3 HX3 e0 e1 e2 e3 e4 e5 e6 e7 e8;obtain⟨n3,hn3⟩:∃n3,w3.heap.size=n3:=⟨_,rfl⟩
  go_upto_region 6 with fail
  obtain⟨u,hu⟩:∃u,w3.alloc (.cells #[.int .i64 r1,.int .i64 r2,S r3] 26)=u:=⟨_,rfl⟩
  change Code.wp _ _ _ _ (w3.alloc (.cells #[.int .i64 r1,.int .i64 r2,S r3] 26));rw[hu] at HF4 HX4 HY4⊢
  try rw[hn3] at HY4
  try rw[hn3]
  clear hu hn3;obtain⟨e0,e1,e2,e3,e4,e5,e6,e7,e8⟩:=nine HF4.o.x;go_wp2_with fail;refine(HE2.o _ g cap2 cn HF4.o.bl HX4.o HT3.o).mono ?_;rintro e w4 ⟨rfl,hb4⟩;have HF5:=aB ((HF4.o.call hb4).call ((Bl.refl w4).alloc (.cells #[.int .i64 s1,.int .i64 s2,S s3] 26)));have HY5:=aB (keep_b (keep_b HY4.o hb4) ((Bl.refl w4).alloc (.cells #[.int .i64 s1,.int .i64 s2,S s3] 26)));have HZ5:=aB (aN w4 (.cells #[.int .i64 s1,.int .i64 s2,S s3] 26));clear hb4 HX4 HY4 e0 e1 e2 e3 e4 e5 e6 e7 e8;obtain⟨n4,hn4⟩:∃n4,w4.heap.size=n4:=⟨_,rfl⟩
  go_upto_region 7 with fail
  obtain⟨u2,hu⟩:∃u,w4.alloc (.cells #[.int .i64 s1,.int .i64 s2,S s3] 26)=u:=⟨_,rfl⟩
  change Code.wp _ _ _ _ (w4.alloc (.cells #[.int .i64 s1,.int .i64 s2,S s3] 26));rw[hu] at HF5 HY5 HZ5⊢
  try rw[hn4] at HZ5
  try rw[hn4]
  clear hu hn4;have HF6:=aB HF5.o;by_cases hec:ec=0
  ·obtain⟨rfl,rfl,rfl,rfl,hk1⟩:=HY.o hec;subst hec;obtain⟨p0,p1,p2⟩:=three3 HY5.o;obtain⟨q0,q1,q2⟩:=three3 HZ5.o;go_wp2_with fail
   (with_reducible refine(num20_any _ _).mono ?_)
   rintro e w' ⟨rfl,rfl⟩;go_wp2_with fail
   (with_reducible refine(num20_any _ _).mono ?_)
   rintro e w' ⟨rfl,rfl⟩;obtain⟨q3,q4,q5⟩:=three3 (keep_b HZ5.o ((Bl.refl u2).alloc (.cells #[.int .i64 s1,.int .i64 s2,S s3] 26)));have hn4:¬n4=u2.heap.size:=fun h=>(by have:=(aC.1 HZ5.o).1;omega);go_wp2_with (first |(refine d8l (vs:=[.int .i64 s1,.int .i64 s2,S s3]) rfl (t:=36) (y:= .tmp 101) rfl Tryz.underlying36 rfl vl1 rfl ?_)|(refine d8l (vs:=[.int .i64 s1,.int .i64 s2,S s3]) rfl (t:=36) (y:= .tmp 103) rfl Tryz.underlying36 rfl vl1 rfl ?_))
   refine(oOrder_same s1 s2 s3 hk1 _ _ _ (t1:=26) (t2:=26) ((aW _ _ (by simp)).trans (aN _ _)) (aV _ _ (by simp))).mono ?_;rintro e w7 ⟨rfl,hb7⟩;have HF7:=aB ((HF6.o.call (((Bl.refl _).alloc _).alloc _)).call hb7);go_wp2_with fail;refine(HWO.o _ (HF7.o).bl).mono ?_;rintro e w9 ⟨rfl,hb9⟩;go_wp2;go_ret;exact⟨by first |rfl|trivial,(HF7.o).bl.call hb9⟩
  ·have hfc:=HN.o hec;have gc:(ec != 0)=true:=(by simpa using hec);have gc2:(ec==0)=false:=(by simpa using hec);have gf2:(fc==0)=false:=(by simpa using hfc);go_wp2_with fail
   (with_reducible refine(num20_any _ _).mono ?_)
   rintro e w' ⟨rfl,rfl⟩;go_wp2_with fail
   (with_reducible refine(num20_any _ _).mono ?_)
   rintro e w' ⟨rfl,rfl⟩;go_wp2_with fail
   (with_reducible refine(num20_any _ _).mono ?_)
   rintro e w' ⟨rfl,rfl⟩;go_wp2_with fail;refine(HWO.o _ (HF6.o).bl).mono ?_;rintro e w9 ⟨rfl,hb9⟩;go_wp2;go_ret;exact⟨by first |rfl|trivial,(HF6.o).bl.call hb9⟩
end
end Go.Proofs.YtkimpcmkminffaaGreatDoor
