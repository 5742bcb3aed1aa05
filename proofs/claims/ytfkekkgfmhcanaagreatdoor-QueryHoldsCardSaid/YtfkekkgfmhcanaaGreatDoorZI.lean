/- Texts beside the shared ones. -/
import Derived.Test.YtfkekkgfmhcanaaGreatDoorX0
import Derived.Test.YtfkekkgfmhcanaaGreatDoorZF
import Derived.Test.YtfkekkgfmhcanaaGreatDoorQJ
namespace Go.Proofs.YtfkekkgfmhcanaaGreatDoor
open Go.RowKit
open _root_.Go.Act renaming put->aK
open _root_.Array renaming getElem?_eq_some_iff->aC
open _root_.Go.Lib renaming cell_of_heap->aG,hid->aB
open _root_.List renaming getElem_mem->dS,setIfInBounds_toArray->aA,set_cons_succ->aF,set_cons_zero->aD,take_of_length_le->jS
open _root_.Nat renaming le_refl->aH,zero_le->dL
open NoPanic renaming normal->bF
set_option maxRecDepth 100000
set_option maxHeartbeats 8000000
section
def deepQ(q:Qu):Nat:=max (max (max (max (max (rY q.wher) (rY q.having)) (nV (q.items.map It.x))) (nV (q.joins.map Jo.on))) (nV q.group)) (nV (q.orders.map Od.x))
theorem nest17(x:Ex)(h:fC x<=1000000)(W:World)(v:Value)(hv:eO W x v):Calls Tryz.prog 38 #[v] W fun e w'=>e= .returned (.int .i64 (rY x:Int))/\Bl W w':=nest17_any _ x (aH _) h W v hv
theorem keep1{A B:World}{b:Nat}{o:Obj}(h:A.heap[b]?=some o)(hb:Bl A B):B.heap[b]?=some o:=(hb.block _ (aC.1 h).1).trans h
theorem deeps_step{α:Type}{f:α->Ex}{l:List α}{j:Nat}(hj:j<l.length):nV ((l.map f).take (j+1))=max (nV ((l.map f).take j)) (rY (f l[j])):=by
 rw[c4w (by simpa using hj)];simp
theorem deep17_any{q:Qu}(hs:d9u 1000000 q){W:World}{v:Value}(hv:d5o W q v):Calls Tryz.prog 10 #[v] W fun e w'=>e= .returned (.int .i64 (deepQ q:Int))/\Bl W w':=by
 obtain⟨si,sj,sw,sg,sh,so,rfl,hp⟩:=hv;obtain⟨ai,ci,aj,cj,aw,cw,ag,cg,ah,ch,ao,co,rfl,rfl,rfl,rfl,rfl,rfl⟩:=hp.slices;obtain⟨R,HR⟩:∃R,Hid (R=deepQ q):=⟨_,rfl⟩
 rw[<-HR.o];have HV1:=aB (fun(B:World) (hb:Bl W B)=>nest17 q.wher hs.wher B _ ⟨_,rfl,hp.wher.reads.bl hb⟩);have HV2:=aB (fun(B:World) (hb:Bl W B)=>nest17 q.having hs.having B _ ⟨_,rfl,hp.having.reads.bl hb⟩);have HI:=aB (d6j hp.items);have HJ:=aB (d6j hp.joins);have HG:=aB (d6j (d8w hp.group));have HO:=aB (d6j hp.orders);have HSS:=aB hs;have hli:=hs.li;have hlj:=hs.lj;have hlg:=hs.lg;have hlo:=hs.lo;have HX:=aB (aN W (.cells (quC q (.slice ai q.items.length ci) (.slice aj q.joins.length cj) (.slice aw q.wher.args.length cw) (.slice ag q.group.length cg) (.slice ah q.having.args.length ch) (.slice ao q.orders.length co)).toArray 36));have HB:=aB ((Bl.refl W).alloc (.cells (quC q (.slice ai q.items.length ci) (.slice aj q.joins.length cj) (.slice aw q.wher.args.length cw) (.slice ag q.group.length cg) (.slice ah q.having.args.length ch) (.slice ao q.orders.length co)).toArray 36));clear hp hs;go_enter Tryz.func10,Tryz.ntmps10;go_wp2_with fail;refine wp_region_noPanic (bM (fun B=>B.heap[W.heap.size]?=some (.cells (quC q (.slice ai q.items.length ci) (.slice aj q.joins.length cj) (.slice aw q.wher.args.length cw) (.slice ag q.group.length cg) (.slice ah q.having.args.length ch) (.slice ao q.orders.length co)).toArray 36 (0,0))) ((.take 0 (.take 1 (.take 3 (.take 4 (.one 2 (.one 5 (.one 6 (.take 7 .done))))))))) (by kernel_rfl) (by kernel_rfl) (by kernel_rfl) (fun _ _ _ _ _ h=>h) ((keep1 HX.o ((Bl.refl _).drew))) ?_);intro wd HWD hY;iterate 4 (refine aI rfl (by rfl) (by intro w hSw;(try dsimp only at hSw);obtain⟨c0,c1,c2,c3,c4,c5,c6,c7,c8,c9,c10,c11,c12,c13,c14,c15,c16,c17,c18,c19,c20,c21,c22,c23⟩:=d6s hSw;go_simp;(try(first |with_reducible rfl|rfl))) ?_;(try simp only[aK,aA,aD,aF]))
 refine aL rfl (fun K hK=>?_);go_simp;(refine(HV1.o _ (HB.o.call HWD.o)).mono ?_;rintro e w3 ⟨rfl,hb3⟩;have hb:=hb3);go_wp2_with fail;refine hK.o _ _ ((by first |exact hY|exact keep1 hY hb)) ?_;clear hY hK K;intro hY;clear hb;refine aL rfl (fun K hK=>?_);go_simp;(refine(HV2.o _ ((HB.o.call HWD.o).call hb3)).mono ?_;rintro e w9 ⟨rfl,hb9⟩;have hb:=hb9);go_wp2_with fail;refine hK.o _ _ ((by first |exact hY|exact keep1 hY hb)) ?_;clear hY hK K;intro hY;clear hb;refine aL rfl (fun K hK=>?_);go_simp;refine hK.o _ _ (hY) ?_;clear hY hK K;intro hY;refine aI rfl (by rfl) (by intro w hSw;(try dsimp only at hSw);obtain⟨c0,c1,c2,c3,c4,c5,c6,c7,c8,c9,c10,c11,c12,c13,c14,c15,c16,c17,c18,c19,c20,c21,c22,c23⟩:=d6s hSw;go_simp;(try(first |with_reducible rfl|rfl))) ?_;(try simp only[aK,aA,aD,aF])
 refine fO (bF ?_);go_wp2_with fail;have HB9:=aB (((HB.o.call HWD.o).call hb3).call hb9);have HX9:=aB hY;clear hY hb3 hb9 HV1 HV2 HB HX;obtain⟨A0,HA0⟩:∃A0,Hid (A0=max (rY q.wher) (rY q.having)):=⟨_,rfl⟩
 go_wp2_with fail;go_loopw [3,4] (fun nn i wr=>∃j:Nat,j<=q.items.length/\nn= .int .i64 ((max A0 (nV ((q.items.map It.x).take j)):Nat):Int)/\i= .int .i64 (j:Int)/\Hid (Bl w9 wr)) (fun _ i _=>q.items.length-(intOf i).toNat)
 case atStart=>exact⟨0,dL _,by congr 1;simp[nV,HA0.o];try omega,rfl,Bl.refl w9⟩
 case round=>
  obtain⟨j,hj,rfl,rfl,HA⟩:=hrel;have HXR:=aB (keep1 HX9.o HA.o);have HBW:=aB (HB9.o.call HA.o);have h4a:wr.cell? ⟨W.heap.size,1,none⟩=some (.slice ai q.items.length ci):=(aG HXR.o 1).trans rfl;by_cases hlt:j<q.items.length
  ·as_aux_lemma=>
   obtain⟨b,off,s,ha,hbl,hcs,hr⟩:=HI.o j hlt;subst ha;have HE:=aB (show nV ((q.items.map It.x).take (j+1))=max (nV ((q.items.map It.x).take j)) (rY (q.items[j]).x) from by first |exact deeps_step hlt|exact c4w hlt);obtain⟨asl,cs,rfl⟩:=hr.shape;have HV:=aB (nest17 (q.items[j]).x (HSS.o.items _ (dS hlt)) wr _ ⟨_,rfl,hr.reads.bl HBW.o⟩)
   replace hcs:=hcs.keep (HBW.o.block b hbl)
   have hlt':(j:Int)<(q.items.length:Int):=(by omega);clear hr;generalize q.items[j]=y at *;obtain⟨st,tt,⟨yk,⟨y1,y2,y3⟩,yt,yn,yo,ya⟩,al⟩:=y;have HCS:=aB (show d2k wr b (off+j * 11) [.bool st,S tt,.int .i64 yk,.int .i64 y1,.int .i64 y2,S y3,S yt,S yn,.int .i64 yo,.slice asl ya.length cs,S al] from hcs);clear hcs;have e0:=d2k.cell0 (HCS.o) rfl;have e1:=HCS.o 1 _ rfl;have e2:=HCS.o 2 _ rfl;have e3:=HCS.o 3 _ rfl;have e4:=HCS.o 4 _ rfl;have e5:=HCS.o 5 _ rfl;have e6:=HCS.o 6 _ rfl;have e7:=HCS.o 7 _ rfl;have e8:=HCS.o 8 _ rfl;have e9:=HCS.o 9 _ rfl;have e10:=HCS.o 10 _ rfl;generalize nV ((q.items.map It.x).take j)=dj at *;go_wp2_with fail;refine HV.o.mono ?_;rintro e w3 ⟨rfl,hb3⟩;clear e0 e1 e2 e3 e4 e5 e6 e7 e8 e9 e10 h4a;go_wp2;go_roundw
   case rel=>exact⟨j+1,by omega,by congr 1;rw[HE.o];omega,by go_num,HA.o.call hb3⟩
   case measure=>simp[intOf];omega
  ·as_aux_lemma=>
   obtain rfl:j=q.items.length:=(by omega);obtain⟨A1,HA1⟩:∃A1,Hid (A1=max A0 (nV (q.items.map It.x))):=⟨_,rfl⟩
   rw[show max A0 (nV ((q.items.map It.x).take q.items.length))=A1 from by rw[HA1.o,jS (by simp)]];clear hlt hj;go_wp2_with fail;go_loopw [3,5] (fun nn i wr=>∃j:Nat,j<=q.joins.length/\nn= .int .i64 ((max A1 (nV ((q.joins.map Jo.on).take j)):Nat):Int)/\i= .int .i64 (j:Int)/\Hid (Bl w9 wr)) (fun _ i _=>q.joins.length-(intOf i).toNat)
   case atStart=>exact⟨0,dL _,by congr 1;simp[nV,HA1.o];try omega,rfl,HA.o⟩
   case round=>
    obtain⟨j,hj,rfl,rfl,HA⟩:=hrel;have HXR:=aB (keep1 HX9.o HA.o);have HBW:=aB (HB9.o.call HA.o);have h4a:wr.cell? ⟨W.heap.size,4,none⟩=some (.slice aj q.joins.length cj):=(aG HXR.o 4).trans rfl;by_cases hlt:j<q.joins.length
    ·as_aux_lemma=>
     obtain⟨b,off,s,ha,hbl,hcs,hr⟩:=HJ.o j hlt;subst ha;have HE:=aB (show nV ((q.joins.map Jo.on).take (j+1))=max (nV ((q.joins.map Jo.on).take j)) (rY (q.joins[j]).on) from by first |exact deeps_step hlt|exact c4w hlt);obtain⟨asl,cs,rfl⟩:=hr.shape;have HV:=aB (nest17 (q.joins[j]).on (HSS.o.joins _ (dS hlt)) wr _ ⟨_,rfl,hr.reads.bl HBW.o⟩)
     replace hcs:=hcs.keep (HBW.o.block b hbl)
     have hlt':(j:Int)<(q.joins.length:Int):=(by omega);clear hr;generalize q.joins[j]=y at *;obtain⟨⟨jt,jal⟩,⟨yk,⟨y1,y2,y3⟩,yt,yn,yo,ya⟩⟩:=y;have HCS:=aB (show d2k wr b (off+j * 10) [S jt,S jal,.int .i64 yk,.int .i64 y1,.int .i64 y2,S y3,S yt,S yn,.int .i64 yo,.slice asl ya.length cs] from hcs);clear hcs;have e0:=d2k.cell0 (HCS.o) rfl;have e1:=HCS.o 1 _ rfl;have e2:=HCS.o 2 _ rfl;have e3:=HCS.o 3 _ rfl;have e4:=HCS.o 4 _ rfl;have e5:=HCS.o 5 _ rfl;have e6:=HCS.o 6 _ rfl;have e7:=HCS.o 7 _ rfl;have e8:=HCS.o 8 _ rfl;have e9:=HCS.o 9 _ rfl;generalize nV ((q.joins.map Jo.on).take j)=dj at *;go_wp2_with fail;refine HV.o.mono ?_;rintro e w3 ⟨rfl,hb3⟩;clear e0 e1 e2 e3 e4 e5 e6 e7 e8 e9 h4a;go_wp2;go_roundw
     case rel=>exact⟨j+1,by omega,by congr 1;rw[HE.o];omega,by go_num,HA.o.call hb3⟩
     case measure=>simp[intOf];omega
    ·as_aux_lemma=>
     obtain rfl:j=q.joins.length:=(by omega);obtain⟨A2,HA2⟩:∃A2,Hid (A2=max A1 (nV (q.joins.map Jo.on))):=⟨_,rfl⟩
     rw[show max A1 (nV ((q.joins.map Jo.on).take q.joins.length))=A2 from by rw[HA2.o,jS (by simp)]];clear hlt hj;go_wp2_with fail;go_loopw [3,6] (fun nn i wr=>∃j:Nat,j<=q.group.length/\nn= .int .i64 ((max A2 (nV ((q.group).take j)):Nat):Int)/\i= .int .i64 (j:Int)/\Hid (Bl w9 wr)) (fun _ i _=>q.group.length-(intOf i).toNat)
     case atStart=>exact⟨0,dL _,by congr 1;simp[nV,HA2.o];try omega,rfl,HA.o⟩
     case round=>
      obtain⟨j,hj,rfl,rfl,HA⟩:=hrel;have HXR:=aB (keep1 HX9.o HA.o);have HBW:=aB (HB9.o.call HA.o);have h4a:wr.cell? ⟨W.heap.size,13,none⟩=some (.slice ag q.group.length cg):=(aG HXR.o 13).trans rfl;by_cases hlt:j<q.group.length
      ·as_aux_lemma=>
       obtain⟨b,off,s,ha,hbl,hcs,hr⟩:=HG.o j hlt;subst ha;have HE:=aB (show nV ((q.group).take (j+1))=max (nV ((q.group).take j)) (rY q.group[j]) from by first |exact deeps_step hlt|exact c4w hlt);obtain⟨asl,cs,rfl⟩:=hr.shape;have HV:=aB (nest17 q.group[j] (HSS.o.group _ (dS hlt)) wr _ ⟨_,rfl,hr.reads.bl HBW.o⟩)
       replace hcs:=hcs.keep (HBW.o.block b hbl)
       have hlt':(j:Int)<(q.group.length:Int):=(by omega);clear hr;generalize q.group[j]=y at *;obtain⟨yk,⟨y1,y2,y3⟩,yt,yn,yo,ya⟩:=y;have HCS:=aB (show d2k wr b (off+j * 8) [.int .i64 yk,.int .i64 y1,.int .i64 y2,S y3,S yt,S yn,.int .i64 yo,.slice asl ya.length cs] from hcs);clear hcs;have e0:=d2k.cell0 (HCS.o) rfl;have e1:=HCS.o 1 _ rfl;have e2:=HCS.o 2 _ rfl;have e3:=HCS.o 3 _ rfl;have e4:=HCS.o 4 _ rfl;have e5:=HCS.o 5 _ rfl;have e6:=HCS.o 6 _ rfl;have e7:=HCS.o 7 _ rfl;generalize nV ((q.group).take j)=dj at *;go_wp2_with fail;refine HV.o.mono ?_;rintro e w3 ⟨rfl,hb3⟩;clear e0 e1 e2 e3 e4 e5 e6 e7 h4a;go_wp2;go_roundw
       case rel=>exact⟨j+1,by omega,by congr 1;rw[HE.o];omega,by go_num,HA.o.call hb3⟩
       case measure=>simp[intOf];omega
      ·as_aux_lemma=>
       obtain rfl:j=q.group.length:=(by omega);obtain⟨A3,HA3⟩:∃A3,Hid (A3=max A2 (nV (q.group))):=⟨_,rfl⟩
       rw[show max A2 (nV ((q.group).take q.group.length))=A3 from by rw[HA3.o,jS (by simp)]];clear hlt hj;go_wp2_with fail;go_loopw [3,7] (fun nn i wr=>∃j:Nat,j<=q.orders.length/\nn= .int .i64 ((max A3 (nV ((q.orders.map Od.x).take j)):Nat):Int)/\i= .int .i64 (j:Int)/\Hid (Bl w9 wr)) (fun _ i _=>q.orders.length-(intOf i).toNat)
       case atStart=>exact⟨0,dL _,by congr 1;simp[nV,HA3.o];try omega,rfl,HA.o⟩
       case round=>
        obtain⟨j,hj,rfl,rfl,HA⟩:=hrel;have HXR:=aB (keep1 HX9.o HA.o);have HBW:=aB (HB9.o.call HA.o);have h4a:wr.cell? ⟨W.heap.size,22,none⟩=some (.slice ao q.orders.length co):=(aG HXR.o 22).trans rfl;by_cases hlt:j<q.orders.length
        ·as_aux_lemma=>
         obtain⟨b,off,s,ha,hbl,hcs,hr⟩:=HO.o j hlt;subst ha;have HE:=aB (show nV ((q.orders.map Od.x).take (j+1))=max (nV ((q.orders.map Od.x).take j)) (rY (q.orders[j]).x) from by first |exact deeps_step hlt|exact c4w hlt);obtain⟨asl,cs,rfl⟩:=hr.shape;have HV:=aB (nest17 (q.orders[j]).x (HSS.o.orders _ (dS hlt)) wr _ ⟨_,rfl,hr.reads.bl HBW.o⟩)
         replace hcs:=hcs.keep (HBW.o.block b hbl)
         have hlt':(j:Int)<(q.orders.length:Int):=(by omega);clear hr;generalize q.orders[j]=y at *;obtain⟨⟨yk,⟨y1,y2,y3⟩,yt,yn,yo,ya⟩,dn⟩:=y;have HCS:=aB (show d2k wr b (off+j * 9) [.int .i64 yk,.int .i64 y1,.int .i64 y2,S y3,S yt,S yn,.int .i64 yo,.slice asl ya.length cs,.bool dn] from hcs);clear hcs;have e0:=d2k.cell0 (HCS.o) rfl;have e1:=HCS.o 1 _ rfl;have e2:=HCS.o 2 _ rfl;have e3:=HCS.o 3 _ rfl;have e4:=HCS.o 4 _ rfl;have e5:=HCS.o 5 _ rfl;have e6:=HCS.o 6 _ rfl;have e7:=HCS.o 7 _ rfl;have e8:=HCS.o 8 _ rfl;generalize nV ((q.orders.map Od.x).take j)=dj at *;go_wp2_with fail;refine HV.o.mono ?_;rintro e w3 ⟨rfl,hb3⟩;clear e0 e1 e2 e3 e4 e5 e6 e7 e8 h4a;go_wp2;go_roundw
         case rel=>exact⟨j+1,by omega,by congr 1;rw[HE.o];omega,by go_num,HA.o.call hb3⟩
         case measure=>simp[intOf];omega
        ·as_aux_lemma=>
         obtain rfl:j=q.orders.length:=(by omega);obtain⟨A4,HA4⟩:∃A4,Hid (A4=max A3 (nV (q.orders.map Od.x))):=⟨_,rfl⟩
         rw[show max A3 (nV ((q.orders.map Od.x).take q.orders.length))=A4 from by rw[HA4.o,jS (by simp)]];clear hlt hj;go_wp2;go_ret;exact⟨by rw[HR.o];unfold deepQ;rw[<-HA0.o,<-HA1.o,<-HA2.o,<-HA3.o,<-HA4.o];rfl,HBW.o⟩
end
end Go.Proofs.YtfkekkgfmhcanaaGreatDoor
