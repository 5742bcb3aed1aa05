/- Texts TF TJ. -/
import Derived.Test.YtohlomdapelgeaaGreatDoorDM
import Derived.Test.YtohlomdapelgeaaGreatDoorCM
import Derived.Deep.CutRange
namespace Go.Proofs.YtohlomdapelgeaaGreatDoor
open _root_.Go.Proofs.Tryz
open Go.RowKit
open _root_.And renaming intro->bT
open _root_.Go.RowKit.Below renaming grown->iL
open _root_.Bool renaming false_and->pK,true_and->rC
open _root_.Go.Lib renaming hid->aB
open _root_.List renaming drop_eq_getElem_cons->aZ,drop_length->dO,getElem_mem->dS,size_toArray->gG
open _root_.Nat renaming le_refl->aH,zero_le->dL
open _root_.Go.Region renaming wanted->jG
set_option maxRecDepth 100000
set_option maxHeartbeats 8000000
section
theorem zequalSet_any{W:World}{v u:Value}{l m:List St}{same:St->St->Bool}{q r:Nat->Prop}{fn:FuncId}(hen:∀(args:Array Value) (w:World),(callFunc fn args).run prog w= .ok (.enter fn args) w)(hlen:l.length<=1000000)(hR:RowsG gSt q W v l)(hR2:RowsG gSt r W u m)
  (hf:∀y∈l,∀(z:St) (W':World) (cs cs2:List Value),Bl W W'->Shp.lies gSt q W' y cs->Shp.lies gSt r W' z cs2->eg fn #[.agg cs.toArray,.agg cs2.toArray] W' fun e w'=>e= .returned (.bool (same y z))/\Bl W' w'):
  eg 37 #[v,u,.func (.func fn) #[] #[]] W fun e w'=>e= .returned (.bool (samesBy same l m))/\Bl W w':=by
 obtain⟨a,cap,rfl,hc⟩:=hR.shape;obtain⟨a2,cap2,rfl,hc2⟩:=hR2.shape;by_cases hl:l.length=m.length
 case neg=>
  rw[samesBy_ne hl];have hl':¬(l.length:Int)=(m.length:Int):=aE;have hb:((l.length:Int)==(m.length:Int))=false:=av;have hb':((l.length:Int) != (m.length:Int))=true:=av;clear hl hl' hR hR2 hf hlen hc hc2;go_enter func37,ntmps37;go_wp2;go_ret;exact⟨rfl,Bl.refl W⟩
 have HC:=aB hc;have HC2:=aB hc2;have HF:=aB hf;have HLE:=aB hl;rw[<-hl];obtain⟨R,HRR⟩:∃R,Hid (samesBy same l m=R):=⟨_,rfl⟩
 rw[HRR.o];clear hR hR2 hc hc2 hf hl;go_enter func37,ntmps37;go_wp2_with fail;go_loopw [17] (fun i wr=>∃j:Nat,j<=l.length/\i= .int .i64 (j:Int)/\Hid (R=samesBy same (l.drop j) (m.drop j))/\Hid (Bl W wr)) (fun i _=>l.length-(intOf i).toNat)
 case atStart=>exact⟨0,dL _,rfl,HRR.o.symm,Bl.refl W⟩
 case round=>
  obtain⟨j,hj,rfl,HD,HB⟩:=hrel;by_cases hlt:j<l.length
  ·have hlt2:j<m.length:=by have:=HLE.o;omega
   obtain⟨b,off,cs,rfl,-,hbl,hcs,hlies⟩:=HC.o j hlt;obtain⟨b2,off2,cs2,rfl,-,hbl2,hcs2,hlies2⟩:=HC2.o j hlt2;have HDj:=aB (HD.o.trans (samesBy_drop hlt hlt2));have HM:=aB (dS hlt);have HLI:=aB (Shp.keep gSt (r:=q) HB.o.size (fun _ _ h=>h) (fun b _ hl=>HB.o.block b hl) hlies);have HLI2:=aB (Shp.keep gSt (r:=r) HB.o.size (fun _ _ h=>h) (fun b _ hl=>HB.o.block b hl) hlies2);have hz:=HB.o.size;have hlt':(j:Int)<(l.length:Int):=aE;have HCL:=aB (show cs.length=9 from Shp.len gSt hlies);have HCO:=aB (Shp.one gSt hlies);have HCL2:=aB (show cs2.length=9 from Shp.len gSt hlies2);have HCO2:=aB (Shp.one gSt hlies2);have HCS:=aB (hcs.keep (HB.o.block b hbl)).range
   replace hcs2:=aB (hcs2.keep (HB.o.block b2 hbl2))
   have HI2:=aB (show(prog.info? 63).map (·.size)=some cs.toArray.size from by rw[gG,HCL.o];exact setInfo);have HI3:=aB (show(prog.info? 63).map (·.size)=some cs2.toArray.size from by rw[gG,HCL2.o];exact setInfo);have hbl3:b2<wr.heap.size:=aE;clear hcs hlies hlies2 HD;generalize l[j]=y at *;generalize m[j]=z at *;go_wp2_with (first |(refine wpList_load_mid rfl 63 (.tmp 20) rfl b (off+j * 9) rfl cs _ HCS.o underlying63 rfl de ?_)|(refine bA (g:=wr.heap.size) (i:=0) rfl rfl rfl rfl cs (aN wr (.cells ([S [],.int .i64 0,.int .i64 0,.int .i64 0,S [],S [],S [],.int .i64 0,.slice none 0 0]).toArray 63)) (by rw[HCL.o];simp) (by rw[HCL.o];rfl) de HCO.o ?_))
   intro w1 hB1 hX1;have hb1:Bl wr w1:=iL ((Bl.refl wr).alloc _) hB1.grown aa (fun j hj=>by injection hj with hj;omega);have HX1:=aB hX1;have HB1:=aB hb1;have HCS2:=aB (hcs2.o.keep (hb1.block b2 hbl3)).range;have hz1:wr.heap.size<w1.heap.size:=lt_of_heap hX1;clear hB1 hX1 hb1 HCS hcs2;go_wp2_with (first |(refine wpList_load_mid rfl 63 (.tmp 24) rfl b2 (off2+j * 9) rfl cs2 _ HCS2.o underlying63 rfl (by rw[HCL2.o];exact setInfo) ?_)|(refine bA (g:=w1.heap.size) (i:=0) rfl rfl rfl rfl cs2 (aN w1 (.cells ([S [],.int .i64 0,.int .i64 0,.int .i64 0,S [],S [],S [],.int .i64 0,.slice none 0 0]).toArray 63)) (by rw[HCL2.o];simp) (by rw[HCL2.o];rfl) (by rw[HCL2.o];exact setInfo) HCO2.o ?_))
   intro w2 hB2 hX2;have hb2:Bl w1 w2:=iL ((Bl.refl w1).alloc _) hB2.grown aa (fun j hj=>by injection hj with hj;omega);have HX2:=aB hX2;have HY2:=aB ((hb2.block _ hz1).trans HX1.o);have HB2:=aB (HB1.o.call hb2);have HA2:=aB (Shp.keep gSt (r:=q) HB2.o.size (fun _ _ h=>h) (fun b _ hl=>HB2.o.block b hl) HLI.o);have HA3:=aB (Shp.keep gSt (r:=r) HB2.o.size (fun _ _ h=>h) (fun b _ hl=>HB2.o.block b hl) HLI2.o);clear hB2 hX2 hb2 HX1 HB1 HCS2 HLI HLI2;go_wp2_with (first |(refine wpList_load_row rfl 63 (.tmp 8) rfl wr.heap.size rfl 63 _ (0,0) _ HY2.o underlying63 rfl HI2.o ?_)|(refine wpList_load_row rfl 63 (.tmp 9) rfl w1.heap.size rfl 63 _ (0,0) _ HX2.o underlying63 rfl HI3.o ?_))
   refine(HF.o y HM.o z w2 cs cs2 (HB.o.call HB2.o) HA2.o HA3.o).mono ?_;rintro e w3 ⟨rfl,hb3⟩;have HB1:=aB ((HB.o.call HB2.o).call hb3);clear hb3 HA2 HA3;cases hs:same y z
   ·have HN:=aB (show R=false from by rw[HDj.o,hs,pK]);clear hs;go_wp2;go_ret;exact⟨by rw[HN.o]<;>rfl,HB1.o⟩
   ·have HN:=aB (show R=samesBy same (l.drop (j+1)) (m.drop (j+1)) from by rw[HDj.o,hs,rC]);clear hs;go_wp2;go_roundw
    case rel=>exact⟨j+1,by omega,by go_num,HN.o,HB1.o⟩
    case measure=>simp[intOf];omega
  ·obtain rfl:j=l.length:=by omega
   have HN:=aB (show R=true from by rw[HD.o,dO,HLE.o,dO];rfl);have hge:¬((l.length:Int)<(l.length:Int)):=aE;go_wp2;go_ret;exact⟨by rw[HN.o]<;>rfl,HB.o⟩
theorem zequalWhen_any{W:World}{v u:Value}{l m:List Wn}{same:Wn->Wn->Bool}{q r:Nat->Prop}{fn:FuncId}(hen:∀(args:Array Value) (w:World),(callFunc fn args).run prog w= .ok (.enter fn args) w)(hlen:l.length<=1000000)(hR:RowsG gWn q W v l)(hR2:RowsG gWn r W u m)
  (hf:∀y∈l,∀(z:Wn) (W':World) (cs cs2:List Value),Bl W W'->Shp.lies gWn q W' y cs->Shp.lies gWn r W' z cs2->eg fn #[.agg cs.toArray,.agg cs2.toArray] W' fun e w'=>e= .returned (.bool (same y z))/\Bl W' w'):
  eg 40 #[v,u,.func (.func fn) #[] #[]] W fun e w'=>e= .returned (.bool (samesBy same l m))/\Bl W w':=by
 obtain⟨a,cap,rfl,hc⟩:=hR.shape;obtain⟨a2,cap2,rfl,hc2⟩:=hR2.shape;by_cases hl:l.length=m.length
 case neg=>
  rw[samesBy_ne hl];have hl':¬(l.length:Int)=(m.length:Int):=aE;have hb:((l.length:Int)==(m.length:Int))=false:=av;have hb':((l.length:Int) != (m.length:Int))=true:=av;clear hl hl' hR hR2 hf hlen hc hc2;go_enter func40,ntmps40;go_wp2;go_ret;exact⟨rfl,Bl.refl W⟩
 have HC:=aB hc;have HC2:=aB hc2;have HF:=aB hf;have HLE:=aB hl;rw[<-hl];obtain⟨R,HRR⟩:∃R,Hid (samesBy same l m=R):=⟨_,rfl⟩
 rw[HRR.o];clear hR hR2 hc hc2 hf hl;go_enter func40,ntmps40;go_wp2_with fail;go_loopw [17] (fun i wr=>∃j:Nat,j<=l.length/\i= .int .i64 (j:Int)/\Hid (R=samesBy same (l.drop j) (m.drop j))/\Hid (Bl W wr)) (fun i _=>l.length-(intOf i).toNat)
 case atStart=>exact⟨0,dL _,rfl,HRR.o.symm,Bl.refl W⟩
 case round=>
  obtain⟨j,hj,rfl,HD,HB⟩:=hrel;by_cases hlt:j<l.length
  ·have hlt2:j<m.length:=by have:=HLE.o;omega
   obtain⟨b,off,cs,rfl,-,hbl,hcs,hlies⟩:=HC.o j hlt;obtain⟨b2,off2,cs2,rfl,-,hbl2,hcs2,hlies2⟩:=HC2.o j hlt2;have HDj:=aB (HD.o.trans (samesBy_drop hlt hlt2));have HM:=aB (dS hlt);have HLI:=aB (Shp.keep gWn (r:=q) HB.o.size (fun _ _ h=>h) (fun b _ hl=>HB.o.block b hl) hlies);have HLI2:=aB (Shp.keep gWn (r:=r) HB.o.size (fun _ _ h=>h) (fun b _ hl=>HB.o.block b hl) hlies2);have hz:=HB.o.size;have hlt':(j:Int)<(l.length:Int):=aE;have HCL:=aB (show cs.length=13 from Shp.len gWn hlies);have HCO:=aB (Shp.one gWn hlies);have HCL2:=aB (show cs2.length=13 from Shp.len gWn hlies2);have HCO2:=aB (Shp.one gWn hlies2);have HCS:=aB (hcs.keep (HB.o.block b hbl)).range
   replace hcs2:=aB (hcs2.keep (HB.o.block b2 hbl2))
   have HI2:=aB (show(prog.info? 87).map (·.size)=some cs.toArray.size from by rw[gG,HCL.o];exact whenInfo);have HI3:=aB (show(prog.info? 87).map (·.size)=some cs2.toArray.size from by rw[gG,HCL2.o];exact whenInfo);have hbl3:b2<wr.heap.size:=aE;clear hcs hlies hlies2 HD;generalize l[j]=y at *;generalize m[j]=z at *;go_wp2_with (first |(refine wpList_load_mid rfl 87 (.tmp 20) rfl b (off+j * 13) rfl cs _ HCS.o underlying87 rfl db ?_)|(refine bA (g:=wr.heap.size) (i:=0) rfl rfl rfl rfl cs (aN wr (.cells ([.bool false,.int .i64 0,.int .i64 0,.int .i64 0,S [],S [],S [],.int .i64 0,.slice none 0 0,.int .i64 0,.slice none 0 0,.slice none 0 0,.slice none 0 0]).toArray 87)) (by rw[HCL.o];simp) (by rw[HCL.o];rfl) db HCO.o ?_))
   intro w1 hB1 hX1;have hb1:Bl wr w1:=iL ((Bl.refl wr).alloc _) hB1.grown aa (fun j hj=>by injection hj with hj;omega);have HX1:=aB hX1;have HB1:=aB hb1;have HCS2:=aB (hcs2.o.keep (hb1.block b2 hbl3)).range;have hz1:wr.heap.size<w1.heap.size:=lt_of_heap hX1;clear hB1 hX1 hb1 HCS hcs2;go_wp2_with (first |(refine wpList_load_mid rfl 87 (.tmp 24) rfl b2 (off2+j * 13) rfl cs2 _ HCS2.o underlying87 rfl (by rw[HCL2.o];exact whenInfo) ?_)|(refine bA (g:=w1.heap.size) (i:=0) rfl rfl rfl rfl cs2 (aN w1 (.cells ([.bool false,.int .i64 0,.int .i64 0,.int .i64 0,S [],S [],S [],.int .i64 0,.slice none 0 0,.int .i64 0,.slice none 0 0,.slice none 0 0,.slice none 0 0]).toArray 87)) (by rw[HCL2.o];simp) (by rw[HCL2.o];rfl) (by rw[HCL2.o];exact whenInfo) HCO2.o ?_))
   intro w2 hB2 hX2;have hb2:Bl w1 w2:=iL ((Bl.refl w1).alloc _) hB2.grown aa (fun j hj=>by injection hj with hj;omega);have HX2:=aB hX2;have HY2:=aB ((hb2.block _ hz1).trans HX1.o);have HB2:=aB (HB1.o.call hb2);have HA2:=aB (Shp.keep gWn (r:=q) HB2.o.size (fun _ _ h=>h) (fun b _ hl=>HB2.o.block b hl) HLI.o);have HA3:=aB (Shp.keep gWn (r:=r) HB2.o.size (fun _ _ h=>h) (fun b _ hl=>HB2.o.block b hl) HLI2.o);clear hB2 hX2 hb2 HX1 HB1 HCS2 HLI HLI2;go_wp2_with (first |(refine wpList_load_row rfl 87 (.tmp 8) rfl wr.heap.size rfl 87 _ (0,0) _ HY2.o underlying87 rfl HI2.o ?_)|(refine wpList_load_row rfl 87 (.tmp 9) rfl w1.heap.size rfl 87 _ (0,0) _ HX2.o underlying87 rfl HI3.o ?_))
   refine(HF.o y HM.o z w2 cs cs2 (HB.o.call HB2.o) HA2.o HA3.o).mono ?_;rintro e w3 ⟨rfl,hb3⟩;have HB1:=aB ((HB.o.call HB2.o).call hb3);clear hb3 HA2 HA3;cases hs:same y z
   ·have HN:=aB (show R=false from by rw[HDj.o,hs,pK]);clear hs;go_wp2;go_ret;exact⟨by rw[HN.o]<;>rfl,HB1.o⟩
   ·have HN:=aB (show R=samesBy same (l.drop (j+1)) (m.drop (j+1)) from by rw[HDj.o,hs,rC]);clear hs;go_wp2;go_roundw
    case rel=>exact⟨j+1,by omega,by go_num,HN.o,HB1.o⟩
    case measure=>simp[intOf];omega
  ·obtain rfl:j=l.length:=by omega
   have HN:=aB (show R=true from by rw[HD.o,dO,HLE.o,dO];rfl);have hge:¬((l.length:Int)<(l.length:Int)):=aE;go_wp2;go_ret;exact⟨by rw[HN.o]<;>rfl,HB.o⟩
theorem zequalRow_any{W:World}{v u:Value}{l m:List (List Ex)}{same:(List Ex)->(List Ex)->Bool}{q r:Nat->Prop}{fn:FuncId}(hen:∀(args:Array Value) (w:World),(callFunc fn args).run prog w= .ok (.enter fn args) w)(hlen:l.length<=1000000)(hR:RowsG gRow q W v l)(hR2:RowsG gRow r W u m)
  (hf:∀y∈l,∀(z:(List Ex)) (W':World) (s s2:Value),Bl W W'->Shp.lies gRow q W' y [s]->Shp.lies gRow r W' z [s2]->eg fn #[s,s2] W' fun e w'=>e= .returned (.bool (same y z))/\Bl W' w'):
  eg 34 #[v,u,.func (.func fn) #[] #[]] W fun e w'=>e= .returned (.bool (samesBy same l m))/\Bl W w':=by
 obtain⟨a,cap,rfl,hc⟩:=hR.shape;obtain⟨a2,cap2,rfl,hc2⟩:=hR2.shape;by_cases hl:l.length=m.length
 case neg=>
  rw[samesBy_ne hl];have hl':¬(l.length:Int)=(m.length:Int):=aE;have hb:((l.length:Int)==(m.length:Int))=false:=av;have hb':((l.length:Int) != (m.length:Int))=true:=av;clear hl hl' hR hR2 hf hlen hc hc2;go_enter func34,ntmps34;go_wp2;go_ret;exact⟨rfl,Bl.refl W⟩
 have HC:=aB hc;have HC2:=aB hc2;have HF:=aB hf;have HLE:=aB hl;rw[<-hl];obtain⟨R,HRR⟩:∃R,Hid (samesBy same l m=R):=⟨_,rfl⟩
 rw[HRR.o];clear hR hR2 hc hc2 hf hl;go_enter func34,ntmps34;go_wp2_with fail;go_loopw [17] (fun i wr=>∃j:Nat,j<=l.length/\i= .int .i64 (j:Int)/\Hid (R=samesBy same (l.drop j) (m.drop j))/\Hid (Bl W wr)) (fun i _=>l.length-(intOf i).toNat)
 case atStart=>exact⟨0,dL _,rfl,HRR.o.symm,Bl.refl W⟩
 case round=>
  obtain⟨j,hj,rfl,HD,HB⟩:=hrel;by_cases hlt:j<l.length
  ·have hlt2:j<m.length:=by have:=HLE.o;omega
   obtain⟨b,off,cs,rfl,-,hbl,hcs,hlies⟩:=HC.o j hlt;obtain⟨b2,off2,cs2,rfl,-,hbl2,hcs2,hlies2⟩:=HC2.o j hlt2;have HDj:=aB (HD.o.trans (samesBy_drop hlt hlt2));have HM:=aB (dS hlt);have HLI:=aB (Shp.keep gRow (r:=q) HB.o.size (fun _ _ h=>h) (fun b _ hl=>HB.o.block b hl) hlies);have HLI2:=aB (Shp.keep gRow (r:=r) HB.o.size (fun _ _ h=>h) (fun b _ hl=>HB.o.block b hl) hlies2);have hz:=HB.o.size;have hlt':(j:Int)<(l.length:Int):=aE;obtain⟨s,rfl,sa,sc,hsh⟩:∃s,cs=[s]/\∃a c,s= .slice a l[j].length c:=by
    obtain⟨s,h1,h2⟩:=hlies;exact⟨s,h1,h2.shape⟩
   obtain⟨s2,rfl,sa2,sc2,hsh2⟩:∃s,cs2=[s]/\∃a c,s= .slice a m[j].length c:=by
    obtain⟨s,h1,h2⟩:=hlies2;exact⟨s,h1,h2.shape⟩
   have e0:wr.cell? ⟨b,off+j,none⟩=some s:=by
    have h:=(hcs.keep (HB.o.block b hbl)) 0 s rfl;simpa[gRow] using h
   have f0:wr.cell? ⟨b2,off2+j,none⟩=some s2:=by
    have h:=(hcs2.keep (HB.o.block b2 hbl2)) 0 s2 rfl;simpa[gRow] using h
   clear hcs hlies hcs2 hlies2;generalize l[j].length=n1 at hsh;generalize m[j].length=n2 at hsh2;subst hsh;subst hsh2;generalize l[j]=y at *;generalize m[j]=z at *;go_wp2_with fail;refine(HF.o y HM.o z wr _ _ HB.o HLI.o HLI2.o).mono ?_;rintro e w1 ⟨rfl,hb1⟩;have HB1:=aB (HB.o.call hb1);clear hb1 e0 f0 HLI HLI2;cases hs:same y z
   ·have HN:=aB (show R=false from by rw[HDj.o,hs,pK]);clear hs;go_wp2;go_ret;exact⟨by rw[HN.o]<;>rfl,HB1.o⟩
   ·have HN:=aB (show R=samesBy same (l.drop (j+1)) (m.drop (j+1)) from by rw[HDj.o,hs,rC]);clear hs;go_wp2;go_roundw
    case rel=>exact⟨j+1,by omega,by go_num,HN.o,HB1.o⟩
    case measure=>simp[intOf];omega
  ·obtain rfl:j=l.length:=by omega
   have HN:=aB (show R=true from by rw[HD.o,dO,HLE.o,dO];rfl);have hge:¬((l.length:Int)<(l.length:Int)):=aE;go_wp2;go_ret;exact⟨by rw[HN.o]<;>rfl,HB.o⟩
theorem beq_drop{l m:List (List UInt8)}{j:Nat}(h:j<l.length)(h2:j<m.length):(l.drop j==m.drop j)=(l[j]==m[j]&&l.drop (j+1)==m.drop (j+1)):=by
 rw[aZ h,aZ h2];rfl
theorem beq_len{l m:List (List UInt8)}(h:l.length≠m.length):(l==m)=false:=by
 rw[beq_eq_false_iff_ne];intro e;exact h (by rw[e])
theorem zequalStr_any{W:World}{v u:Value}{l m:List (List UInt8)}{q r:Nat->Prop}(hlen:l.length<=1000000)(hR:RowsG gStr q W v l)(hR2:RowsG gStr r W u m):
  eg 33 #[v,u] W fun e w'=>e= .returned (.bool (l==m))/\Bl W w':=by
 obtain⟨a,cap,rfl,hc⟩:=hR.shape;obtain⟨a2,cap2,rfl,hc2⟩:=hR2.shape;by_cases hl:l.length=m.length
 case neg=>
  rw[beq_len hl];have hl':¬(l.length:Int)=(m.length:Int):=aE;have hb:((l.length:Int)==(m.length:Int))=false:=av;have hb':((l.length:Int) != (m.length:Int))=true:=av;clear hl hl' hR hR2 hlen hc hc2;go_enter func33,ntmps33;go_wp2;go_ret;exact⟨rfl,Bl.refl W⟩
 have HC:=aB hc;have HC2:=aB hc2;have HLE:=aB hl;rw[<-hl];obtain⟨R,HRR⟩:∃R,Hid ((l==m)=R):=⟨_,rfl⟩
 rw[HRR.o];clear hR hR2 hc hc2 hl;go_enter func33,ntmps33;go_wp2_with fail;go_loopw [13] (fun i wr=>∃j:Nat,j<=l.length/\i= .int .i64 (j:Int)/\Hid (R=(l.drop j==m.drop j))/\Hid (Bl W wr)) (fun i _=>l.length-(intOf i).toNat)
 case atStart=>exact⟨0,dL _,rfl,HRR.o.symm,Bl.refl W⟩
 case round=>
  obtain⟨j,hj,rfl,HD,HB⟩:=hrel;by_cases hlt:j<l.length
  ·have hlt2:j<m.length:=by have:=HLE.o;omega
   obtain⟨b,off,cs,rfl,-,hbl,hcs,hlies⟩:=HC.o j hlt;obtain⟨b2,off2,cs2,rfl,-,hbl2,hcs2,hlies2⟩:=HC2.o j hlt2;obtain rfl:cs=[S l[j]]:=hlies;obtain rfl:cs2=[S m[j]]:=hlies2;have HDj:=aB (HD.o.trans (beq_drop hlt hlt2));have hlt':(j:Int)<(l.length:Int):=aE;have hlt3:(j:Int)<(m.length:Int):=aE;have e0:wr.cell? ⟨b,off+j,none⟩=some (S l[j]):=by
    have h:=(hcs.keep (HB.o.block b hbl)) 0 _ rfl;simpa[gStr] using h
   have f0:wr.cell? ⟨b2,off2+j,none⟩=some (S m[j]):=by
    have h:=(hcs2.keep (HB.o.block b2 hbl2)) 0 _ rfl;simpa[gStr] using h
   clear hcs hcs2 HD;generalize l[j]=y at *;generalize m[j]=z at *;by_cases hs:y=z
   ·subst hs;have HN:=aB (show R=(l.drop (j+1)==m.drop (j+1)) from by rw[HDj.o];simp);go_wp2_with fail
    go_quiet (fail)
    go_wp2;go_roundw
    case rel=>exact⟨j+1,by omega,by go_num,HN.o,HB.o.call (Bl.drewN _ _)⟩
    case measure=>simp[intOf];omega
   ·have HN:=aB (show R=false from by rw[HDj.o];simp[hs]);have hb:(y==z)=false:=(by simpa using hs);have hb':(y != z)=true:=(by simpa using hs);go_wp2_with fail
    go_quiet (fail)
    go_wp2;go_ret;exact⟨by rw[HN.o]<;>rfl,HB.o.call (Bl.drewN _ _)⟩
  ·obtain rfl:j=l.length:=by omega
   have HN:=aB (show R=true from by rw[HD.o,dO,HLE.o,dO];rfl);have hge:¬((l.length:Int)<(l.length:Int)):=aE;go_wp2;go_ret;exact⟨by rw[HN.o]<;>rfl,HB.o⟩
theorem enters_zsameRow(args:Array Value)(w:World):(callFunc 35 args).run prog w= .ok (.enter 35 args) w:=by simp[go_sem]
theorem enters_zsameSet(args:Array Value)(w:World):(callFunc 38 args).run prog w= .ok (.enter 38 args) w:=by simp[go_sem]
theorem enters_zsameItem(args:Array Value)(w:World):(callFunc 43 args).run prog w= .ok (.enter 43 args) w:=by simp[go_sem]
theorem enters_zsameWhen(args:Array Value)(w:World):(callFunc 41 args).run prog w= .ok (.enter 41 args) w:=by simp[go_sem]
theorem zsameRow_any{l m:List Ex}(hlen:l.length<=1000000)(hx:∀y∈l,fC y<=1000000)(W:World)(v u:Value)(hR:gU W v l)(hR2:gU W u m):
  eg 35 #[v,u] W fun e w'=>e= .returned (.bool (lQ l m))/\Bl W w':=by
 obtain⟨a,cap,rfl,-⟩:=hR.shape;obtain⟨a2,cap2,rfl,-⟩:=hR2.shape;have H:=aB (c3u hlen hR hR2 fun y hy z W' v u _ h1 h2=>b7d _ y z (aH _) (hx y hy) W' v u h1 h2);generalize lQ l m=r at *;clear hR hR2 hx hlen;go_enter func35,ntmps35;go_wp2_with fail;refine H.o.mono ?_;rintro e w1 ⟨rfl,hb⟩;go_wp2;go_ret;exact⟨rfl,hb⟩
theorem zsameSet_any{x y:St}(hx:fC x.x<=1000000)(W:World)(s s2:Value)(h1:gU W s x.x.args)(h2:gU W s2 y.x.args):
  eg 38 #[.agg (S x.n::qD x.x s).toArray,.agg (S y.n::qD y.x s2).toArray] W fun e w'=>e= .returned (.bool (sameSt x y))/\Bl W w':=by
 have HS:Hid (∀w,Bl W w->eg 39 #[.agg (qD x.x s).toArray,.agg (qD y.x s2).toArray] w fun e w'=>e= .returned (.bool (kR x.x y.x))/\Bl w w'):=fun w hb=>b7d _ x.x y.x (aH _) hx w _ _ ⟨s,rfl,h1.bl hb⟩ ⟨s2,rfl,h2.bl hb⟩;have HE:Hid (sameSt x y=(x.n==y.n&&kR x.x y.x)):=rfl;rw[HE.o];clear h1 h2 hx HE;by_cases e1:x.n=y.n
 ·have hb1:(x.n==y.n)=true:=by simpa using e1
  rw[hb1,rC];clear e1;go_enter func38,ntmps38;go_wp2_with (refine wpList_boxO rfl 63 (.tmp 0) rfl (S x.n::qD x.x s) rfl ?_)
  intro w0 hb0 hX0;have HX00:=aB hX0;have HB00:=aB hb0;have hz0:W.heap.size<w0.heap.size:=lt_of_heap hX0;clear hb0 hX0;go_wp2_with (refine wpList_boxO rfl 63 (.tmp 1) rfl (S y.n::qD y.x s2) rfl ?_)
  intro w1 hb1 hX1;have HX:=aB (bT ((hb1.block _ hz0).trans HX00.o) hX1);have HB:=aB (HB00.o.call hb1);obtain⟨g2,hg2⟩:∃g,w0.heap.size=g:=⟨_,rfl⟩
  rw[hg2] at HX⊢;clear hb1 hX1 HX00 HB00 hz0 hg2;have cx:=cell_of (i:=0) HX.o.1 rfl;have dx:=cell_of (i:=0) HX.o.2 rfl;go_wp2_with (first |(refine wpList_load_midG ar 38 (.tmp 11) rfl W.heap.size 1 rfl (qD x.x s) _ (range_of HX.o.1 rfl) underlying38 rfl d4b ?_)|(refine wpList_load_midG ar 38 (.tmp 13) rfl g2 1 rfl (qD y.x s2) _ (range_of HX.o.2 rfl) underlying38 rfl d4b ?_))
  refine(HS.o _ HB.o).mono ?_;rintro e w2 ⟨rfl,hb2⟩;go_wp2;go_ret;exact⟨rfl,HB.o.call hb2⟩
 ·have hb1:(x.n==y.n)=false:=by simpa using e1
  rw[hb1,pK];clear e1;go_enter func38,ntmps38;go_wp2_with (refine wpList_boxO rfl 63 (.tmp 0) rfl (S x.n::qD x.x s) rfl ?_)
  intro w0 hb0 hX0;have HX00:=aB hX0;have HB00:=aB hb0;have hz0:W.heap.size<w0.heap.size:=lt_of_heap hX0;clear hb0 hX0;go_wp2_with (refine wpList_boxO rfl 63 (.tmp 1) rfl (S y.n::qD y.x s2) rfl ?_)
  intro w1 hb1 hX1;have HX:=aB (bT ((hb1.block _ hz0).trans HX00.o) hX1);have HB:=aB (HB00.o.call hb1);obtain⟨g2,hg2⟩:∃g,w0.heap.size=g:=⟨_,rfl⟩
  rw[hg2] at HX⊢;clear hb1 hX1 HX00 HB00 hz0 hg2;have cx:=cell_of (i:=0) HX.o.1 rfl;have dx:=cell_of (i:=0) HX.o.2 rfl;go_wp2;go_ret;exact⟨rfl,HB.o⟩
theorem zsameItem_any{x y:It}(hx:fC x.x<=1000000)(W:World)(s s2:Value)(h1:gU W s x.x.args)(h2:gU W s2 y.x.args):eg 43 #[.agg (fIt.cells x s).toArray,.agg (fIt.cells y s2).toArray] W fun e w'=>e= .returned (.bool (sameIt x y))/\Bl W w':=by
 have HS:=aB (fun(B:World) (hb:Bl W B)=>b7d _ x.x y.x (aH _) hx B _ _ ⟨_,rfl,h1.bl hb⟩ ⟨_,rfl,h2.bl hb⟩);obtain⟨asl,cs,rfl,-⟩:=h1.shape;obtain⟨asl2,cs2,rfl,-⟩:=h2.shape;obtain⟨st,tt,⟨yk,⟨y1,y2,y3⟩,yt,yn,yo,ya⟩,al⟩:=x;obtain⟨st2,tt2,⟨zk,⟨z1,z2,z3⟩,zt,zn,zo,za⟩,al2⟩:=y;clear h1 h2 hx;simp only[sameIt];show eg 43 #[.agg #[.bool st,S tt,.int .i64 yk,.int .i64 y1,.int .i64 y2,S y3,S yt,S yn,.int .i64 yo,.slice asl ya.length cs,S al],.agg #[.bool st2,S tt2,.int .i64 zk,.int .i64 z1,.int .i64 z2,S z3,S zt,S zn,.int .i64 zo,.slice asl2 za.length cs2,S al2]] W _;generalize hR:(st==st2&&tt==tt2&&al==al2&&kR (.mk yk (y1,y2,y3) yt yn yo ya) (.mk zk (z1,z2,z3) zt zn zo za))=R;have HRR:=aB hR;clear hR;by_cases e1:st=st2
 case neg=>
  have HE:=aB (show R=false from by rw[<-HRR.o];simp[e1]);have hb:(st==st2)=false:=bp;clear HS e1;go_enter func43,ntmps43;go_wp2;go_ret;exact⟨by rw[HE.o];rfl,((Bl.refl W).alloc _).alloc _⟩
 subst e1;by_cases e2:tt=tt2
 case neg=>
  have HE:=aB (show R=false from by rw[<-HRR.o];simp[e2]);have hb:(tt==tt2)=false:=(by simpa using e2);clear HS e2;go_enter func43,ntmps43;go_wp2;go_ret;exact⟨by rw[HE.o];rfl,((Bl.refl W).alloc _).alloc _⟩
 subst e2;by_cases e3:al=al2
 case neg=>
  have HE:=aB (show R=false from by rw[<-HRR.o];simp[e3]);have hb:(al==al2)=false:=cr;clear HS e3;go_enter func43,ntmps43;go_wp2;go_ret;exact⟨by rw[HE.o];rfl,((Bl.refl W).alloc _).alloc _⟩
 subst e3;have HE:=aB (show kR (.mk yk (y1,y2,y3) yt yn yo ya) (.mk zk (z1,z2,z3) zt zn zo za)=R from by rw[<-HRR.o];simp);clear HRR;go_enter func43,ntmps43;go_wp2_with fail;refine(HS.o _ (((Bl.refl W).alloc _).alloc _)).mono ?_;rintro e w1 ⟨rfl,hb1⟩;go_wp2;go_ret;exact⟨by rw[<-HE.o];rfl,(((Bl.refl W).alloc _).alloc _).call hb1⟩
theorem zsameWhen_any{p q:Nat->Prop}{x y:Wn}(h:WnSz x)(W:World){cs cs2:List Value}(hc:Shp.lies gWn p W x cs)(hc2:Shp.lies gWn q W y cs2):
  eg 41 #[.agg cs.toArray,.agg cs2.toArray] W fun e w'=>e= .returned (.bool (sameWn x y))/\Bl W w':=by
 obtain⟨s,ss,sc,sv,rfl,hr,hrs,hrc,hrv⟩:=hc;obtain⟨u,us,uc,uv,rfl,gr,grs,grc,grv⟩:=hc2;have HS:Hid (∀w,Bl W w->eg 39 #[.agg (qD x.cond s).toArray,.agg (qD y.cond u).toArray] w fun e w'=>e= .returned (.bool (kR x.cond y.cond))/\Bl w w'):=fun w hb=>b7d _ x.cond y.cond (aH _) h.cond.parts w _ _ ⟨s,rfl,hr.reads.bl hb⟩ ⟨u,rfl,gr.reads.bl hb⟩;have HT:Hid (∀w,Bl W w->eg 37 #[ss,us,.func (.func 38) #[] #[]] w fun e w'=>e= .returned (.bool (samesBy sameSt x.sets y.sets))/\Bl w w'):=fun w hb=>zequalSet_any enters_zsameSet h.ls (hrs.bl hb) (grs.bl hb) fun a ha b W' ca cb _ h1 h2=>by
  obtain⟨s1,rfl,h1⟩:=h1;obtain⟨s2,rfl,h2⟩:=h2;exact zsameSet_any (h.sets a ha).x.parts W' s1 s2 h1.reads h2.reads
 have HC:Hid (∀w,Bl W w->eg 33 #[sc,uc] w fun e w'=>e= .returned (.bool (x.cols==y.cols))/\Bl w w'):=fun w hb=>zequalStr_any h.lc (hrc.bl hb) (grc.bl hb);have HV:Hid (∀w,Bl W w->eg 35 #[sv,uv] w fun e w'=>e= .returned (.bool (lQ x.vals y.vals))/\Bl w w'):=fun w hb=>zsameRow_any h.lv (fun a ha=>(h.vals a ha).parts) w sv uv (hrv.reads.bl hb) (grv.reads.bl hb);obtain⟨R,HR⟩:∃R,Hid (R=sameWn x y):=⟨_,rfl⟩
 rw[<-HR.o];have HE:Hid (R=_):=HR.o.trans (by unfold sameWn;rfl);clear HR h hr hrs hrc hrv gr grs grc grv;by_cases e1:x.matched=y.matched
 case neg=>
  have HF:=aB (show R=false from by rw[HE.o];simp[e1]);have hb1:(x.matched==y.matched)=false:=bp;clear e1 HE HS HT HC HV;go_enter func41,ntmps41;go_wp2_with (refine wpList_boxO rfl 87 (.tmp 0) rfl (cells13 x s ss sc sv) rfl ?_)
  intro w0 hb0 hX0;have HX00:=aB hX0;have HB00:=aB hb0;have hz0:W.heap.size<w0.heap.size:=lt_of_heap hX0;clear hb0 hX0;go_wp2_with (refine wpList_boxO rfl 87 (.tmp 1) rfl (cells13 y u us uc uv) rfl ?_)
  intro w1 hb1 hX1;have HX:=aB (bT ((hb1.block _ hz0).trans HX00.o) hX1);have HB:=aB (HB00.o.call hb1);obtain⟨g2,hg2⟩:∃g,w0.heap.size=g:=⟨_,rfl⟩
  rw[hg2] at HX⊢;clear hb1 hX1 HX00 HB00 hz0 hg2;have cx:=cell_of (i:=0) HX.o.1 rfl;have dx:=cell_of (i:=0) HX.o.2 rfl;go_wp2;go_ret;exact⟨by rw[HF.o];first |rfl|simp,HB.o⟩
 have hb1:(x.matched==y.matched)=true:=by simpa using e1
 replace HE:=aB (HE.o.trans (by rw[hb1]))
 clear e1;go_enter func41,ntmps41;go_wp2_with (refine wpList_boxO rfl 87 (.tmp 0) rfl (cells13 x s ss sc sv) rfl ?_)
 intro w0 hb0 hX0;have HX00:=aB hX0;have HB00:=aB hb0;have hz0:W.heap.size<w0.heap.size:=lt_of_heap hX0;clear hb0 hX0;go_wp2_with (refine wpList_boxO rfl 87 (.tmp 1) rfl (cells13 y u us uc uv) rfl ?_)
 intro w1 hb1 hX1;have HX:=aB (bT ((hb1.block _ hz0).trans HX00.o) hX1);have HB:=aB (HB00.o.call hb1);obtain⟨g2,hg2⟩:∃g,w0.heap.size=g:=⟨_,rfl⟩
 rw[hg2] at HX⊢;clear hb1 hX1 HX00 HB00 hz0 hg2;have cx:=cell_of (i:=0) HX.o.1 rfl;have dx:=cell_of (i:=0) HX.o.2 rfl;go_wp2_with (first |(refine wpList_load_midG ar 38 (.tmp 11) rfl W.heap.size 1 rfl (qD x.cond s) _ (range_of HX.o.1 rfl) underlying38 rfl d4b ?_)|(refine wpList_load_midG ar 38 (.tmp 13) rfl g2 1 rfl (qD y.cond u) _ (range_of HX.o.2 rfl) underlying38 rfl d4b ?_))
 refine(HS.o _ HB.o).mono ?_;clear cx dx hb1;rintro e w9 ⟨rfl,hb⟩
 replace HB:=aB (HB.o.call hb)
 replace HX:=aB (bT ((hb.block _ (lt_of_heap HX.o.1)).trans HX.o.1) ((hb.block _ (lt_of_heap HX.o.2)).trans HX.o.2))
 clear hb;cases hs:(kR x.cond y.cond)
 ·have HF:=aB (show R=false from by rw[HE.o];simp[hs]);clear hs HE;go_wp2;go_ret;exact⟨by rw[HF.o];first |rfl|simp,HB.o⟩
 replace HE:=aB (HE.o.trans bd)
 clear hs;have cx:=cell_of (i:=9) HX.o.1 rfl;have dx:=cell_of (i:=9) HX.o.2 rfl;by_cases e2:x.act=y.act
 case neg=>
  have HF:=aB (show R=false from by rw[HE.o];simp[e2]);have hb2:(x.act==y.act)=false:=(by simpa using e2);clear e2 HE;go_wp2;go_ret;exact⟨by rw[HF.o];first |rfl|simp,HB.o⟩
 have hb2:(x.act==y.act)=true:=by simpa using e2
 replace HE:=aB (HE.o.trans (by rw[hb2]))
 clear e2;have cy:=cell_of (i:=10) HX.o.1 rfl;have dy:=cell_of (i:=10) HX.o.2 rfl;go_wp2_with fail;refine(HT.o _ HB.o).mono ?_;clear cx dx cy dy hb2;rintro e w9 ⟨rfl,hb⟩
 replace HB:=aB (HB.o.call hb)
 replace HX:=aB (bT ((hb.block _ (lt_of_heap HX.o.1)).trans HX.o.1) ((hb.block _ (lt_of_heap HX.o.2)).trans HX.o.2))
 clear hb;cases hs:(samesBy sameSt x.sets y.sets)
 ·have HF:=aB (show R=false from by rw[HE.o];simp[hs]);clear hs HE;go_wp2;go_ret;exact⟨by rw[HF.o];first |rfl|simp,HB.o⟩
 replace HE:=aB (HE.o.trans bd)
 clear hs;have cx:=cell_of (i:=11) HX.o.1 rfl;have dx:=cell_of (i:=11) HX.o.2 rfl;go_wp2_with fail;refine(HC.o _ HB.o).mono ?_;clear cx dx;rintro e w9 ⟨rfl,hb⟩
 replace HB:=aB (HB.o.call hb)
 replace HX:=aB (bT ((hb.block _ (lt_of_heap HX.o.1)).trans HX.o.1) ((hb.block _ (lt_of_heap HX.o.2)).trans HX.o.2))
 clear hb;cases hs:(x.cols==y.cols)
 ·have HF:=aB (show R=false from by rw[HE.o];simp[hs]);clear hs HE;go_wp2;go_ret;exact⟨by rw[HF.o];first |rfl|simp,HB.o⟩
 replace HE:=aB (HE.o.trans bd)
 clear hs;have cx:=cell_of (i:=12) HX.o.1 rfl;have dx:=cell_of (i:=12) HX.o.2 rfl;go_wp2_with fail;refine(HV.o _ HB.o).mono ?_;rintro e w8 ⟨rfl,hb⟩;go_wp2;go_ret;exact⟨by rw[HE.o];simp,HB.o.call hb⟩
end
section
theorem len_0{α:Type}(l:List α):((((l.length:Int)==0):Bool))=l.isEmpty:=by
 cases l with
 |nil=>rfl
 |cons=>simp;omega
section
variable {w:Wr} {p:Nat->Prop} {s:SlW}
def QCk(q:Qu):Prop:=∀W v,d5o W q v->nD W->eg 99 #[v] W fun e w'=>e= .returned (.int .i64 (if d3e q then 0 else 2))/\Bl W w'
structure InK(p:Nat->Prop)(W:World)(w:Wr)(s:SlW):Prop where
 rows:∀v,Bl W v->eg 97 #[s.rows,.int .i64 1,.int .i64 64,.func (.func 98) #[] #[]] v fun e w'=>e= .returned (.bool (decide (1<=w.rows.length)&&decide (w.rows.length<=64)&&w.rows.all rowB))/\Bl v w'
 same:∀v,Bl W v->eg 36 #[.agg (quC w.query s.si s.sj s.sw s.sg s.sh s.so).toArray,.agg (quC d3z nilV nilV nilV nilV nilV nilV).toArray] v fun e w'=>e= .returned (.bool (sameQ w.query d3z))/\Bl v w'
 check:w.hasQ=true->∀v,Bl W v->eg 99 #[.agg (quC w.query s.si s.sj s.sw s.sg s.sh s.so).toArray] v fun e w'=>e= .returned (.int .i64 (if d3e w.query then 0 else 2))/\Bl v w'
 none:∀v,Bl W v->eg 100 #[.agg (qD w.wher s.wher).toArray] v fun e w'=>e= .returned (.bool (d3i w.wher))/\Bl v w'
 sets:∀v,Bl W v->eg 101 #[s.sets] v fun e w'=>e= .returned (.bool (setsB w.sets))/\Bl v w'
 may:∀v,Bl W v->eg 102 #[.agg (qD w.wher s.wher).toArray] v fun e w'=>e= .returned (.bool (mayB w.wher))/\Bl v w'
 conf:∀v,Bl W v->eg 103 #[s.conf,.int .i64 1,.int .i64 32,.func (.func 104) #[] #[]] v fun e w'=>e= .returned (.bool (namesB w.conf 1))/\Bl v w'
 cols:∀v,Bl W v->eg 103 #[s.cols,.int .i64 0,.int .i64 32,.func (.func 104) #[] #[]] v fun e w'=>e= .returned (.bool (namesB w.cols 0))/\Bl v w'
theorem in_k(h:WrSz w)(hQC:w.hasQ=true->QCk w.query){W:World}(hp:PartsW p W w s)(hG:nD W):InK p W w s:=by
 refine⟨fun v hb=>?_,fun v hb=>qSame_any h.small ⟨_,_,_,_,_,_,rfl,lowQ (hp.query.bl hb)⟩ ⟨_,_,_,_,_,_,rfl,(parts_zeroW _ v).query⟩,fun hq v hb=>hQC hq v _ ⟨_,_,_,_,_,_,rfl,lowQ (hp.query.bl hb)⟩ (hG.bl hb),fun v hb=>znone_any h.wher.parts v _ ⟨_,rfl,hp.wher.reads.bl hb⟩,fun v hb=>zsetsB_any h.sets h.ls v _ (hp.sets.bl hb) (hG.bl hb),
  fun v hb=>zmay_any h.wher v _ ⟨_,rfl,hp.wher.reads.bl hb⟩ (hG.bl hb),fun v hb=>znames_each h.conf h.lf 1 v _ (hp.conf.bl hb) (hG.bl hb),fun v hb=>znames_each h.cols h.lc 0 v _ (hp.cols.bl hb) (hG.bl hb)⟩
 ·have h1:=zeachRow_any (pB:=rowB) enters_zrowB h.lr (hp.rows.bl hb) 1 64 fun y hy W' sx hb' hl=>by
   obtain⟨_,e,hl⟩:=hl;obtain rfl:sx=_:=ba;exact zrowB_any (h.rows y hy).2 (h.rows y hy).1 W' _ hl (hG.bl (hb.call hb'))
  rw[show((64:Int))=((64:Nat):Int) from rfl,show((1:Int))=((1:Nat):Int) from rfl,dec_int,dec_int] at h1;exact h1
structure InX(W:World)(w:Wr)(s:SlW)(A:World):Prop where
 b:Bl W A
 x:A.heap[W.heap.size]?=some (.cells (cWr w s).toArray 46 (0,0))
theorem InX.call{W A B:World}(h:InX W w s A)(hb:Bl A B):InX W w s B:=⟨h.b.call hb,(hb.block _ (lt_of_heap h.x)).trans h.x⟩
theorem zkinds1_any(h:WrSz w)(hQC:w.hasQ=true->QCk w.query)(W:World)(hp:PartsW p W w s)(hG:nD W):eg 96 #[.agg (cWr w s).toArray] W fun e w'=>e= .returned (.bool (inB w))/\Bl W w':=by
 obtain⟨HRO,HSA,HCK,HNO,HSE,HMA,HCF,HCO⟩:=in_k h hQC hp hG
 replace HRO:=aB HRO
 replace HSA:=aB HSA
 replace HCK:=aB HCK
 replace HNO:=aB HNO
 replace HSE:=aB HSE
 replace HMA:=aB HMA
 replace HCF:=aB HCF
 replace HCO:=aB HCO
 obtain⟨ra,rc,er,-⟩:=hp.rows.shape;obtain⟨ta,tc,et,-⟩:=hp.sets.shape;obtain⟨ca,cc,ec,-⟩:=hp.conf.shape
 replace er:=aB er
 replace et:=aB et
 replace ec:=aB ec
 have HL:=aB (bT h.lr (bT h.ls h.lf));have HR0:=aB (len_0 w.rows);have HS0:=aB (len_0 w.sets);have HF0:=aB (len_0 w.conf);have HRI:Hid (rowsInB w=if w.hasQ then w.rows.isEmpty&&d3e w.query else decide (1<=w.rows.length)&&decide (w.rows.length<=64)&&w.rows.all rowB&&sameQ w.query d3z):=rfl;have HUI:Hid (updInB w=if w.act=2 then setsB w.sets&&mayB w.wher else w.sets.isEmpty&&d3i w.wher):=rfl;have HCI:Hid (confInB w=if w.act=0 then w.conf.isEmpty else namesB w.conf 1):=rfl;have HIN:Hid (inB w=(rowsInB w&&updInB w&&confInB w&&decide (0<=w.act)&&decide (w.act<=2)&&namesB w.cols 0)):=rfl;rw[HIN.o];generalize rowsInB w=q1 at *;generalize updInB w=q2 at *;generalize confInB w=q3 at *;generalize (decide (1<=w.rows.length)&&decide (w.rows.length<=64)&&w.rows.all rowB)=r0 at *;generalize sameQ w.query d3z=r1 at *;generalize d3e w.query=r2 at *;generalize d3i w.wher=r3 at *;generalize setsB w.sets=r4 at *;generalize mayB w.wher=r5 at *;generalize namesB w.conf 1=r6 at *;generalize namesB w.cols 0=r7 at *;clear h hp hG HIN hQC;go_enter func96,ntmps96;go_wp2_with (refine wpList_boxO rfl 46 (.tmp 0) rfl (cWr w s) rfl ?_)
 intro w0 hb0 hX0;have HX:=aB (show InX W w s w0 from⟨hb0,hX0⟩);clear hb0 hX0
 go_upto_region 1 with fail
 go_cut [3] from 6 (fun t3 wc=>t3= .bool (r0&&r1)/\Hid (InX W w s wc))
 case first=>
  have d4:=cell_of (i:=4) HX.o.x rfl;go_wp2_with fail;refine(HRO.o _ HX.o.b).mono ?_;rintro e wn ⟨rfl,hbn⟩;have HX1:=aB (HX.o.call hbn);clear hbn;clear d4;cases r0
  ·go_wp2
   go_meet
   case rel=>exact⟨rfl,HX1.o⟩
  ·have HX1X:=aB HX1.o.x;go_wp2_with (refine wpList_load_midG ar 41 (.tmp 10) rfl W.heap.size 6 rfl (quC w.query s.si s.sj s.sw s.sg s.sh s.so) _ (range_of HX1X.o rfl) underlying41 rfl tC ?_)
   refine(HSA.o _ HX1.o.b).mono ?_;rintro e wn ⟨rfl,hbn⟩;have HX2:=aB (HX1.o.call hbn);clear hbn;go_wp2
   go_meet
   case rel=>exact⟨rfl,HX2.o⟩
 case rest=>
 clear HX HRO HSA;obtain⟨rfl,HX⟩:=hcut;have d5:=cell_of (i:=5) HX.o.x rfl
 go_upto_if 16 with fail
 go_cut [3] from 6 (fun t3 wc=>t3= .bool q1/\Hid (InX W w s wc))
 case first=>
  cases hq:w.hasQ
  ·have HQ1:=aB (show q1=(r0&&r1) from by rw[HRI.o,hq];rfl);clear hq;go_wp2
   go_meet
   case rel=>exact⟨by rw[HQ1.o],HX.o⟩
  ·have HQ1:=aB (show q1=(w.rows.isEmpty&&r2) from by rw[HRI.o,hq];rfl)
   replace HCK:=aB (HCK.o hq)
   clear hq;have d4:=cell_of (i:=4) HX.o.x rfl;rw[er.o] at d4;rw[<-HR0.o] at HQ1;cases hz:(((w.rows.length:Int)==0):Bool)
   ·have hz1:¬((w.rows.length:Int)=0):=by simpa using hz
    rw[hz] at HQ1;go_wp2
    go_meet
    case rel=>exact⟨by rw[HQ1.o];rfl,HX.o⟩
   ·have hz1:((w.rows.length:Int)=0):=by simpa using hz
    rw[hz] at HQ1;have HX1X:=aB HX.o.x;go_wp2_with (refine wpList_load_midG ar 41 (.tmp 22) rfl W.heap.size 6 rfl (quC w.query s.si s.sj s.sw s.sg s.sh s.so) _ (range_of HX1X.o rfl) underlying41 rfl tC ?_)
    refine(HCK.o _ HX.o.b).mono ?_;rintro e wn ⟨rfl,hbn⟩;have HX2:=aB (HX.o.call hbn);clear hbn;cases r2
    all_goals
     go_wp2
     go_meet
     case rel=>exact⟨by rw[HQ1.o];rfl,HX2.o⟩
 case rest=>
 clear HX HCK d5 HRI HR0;obtain⟨rfl,HX⟩:=hcut
 go_upto_region 4 with fail
 go_cut [4] from 6 (fun t4 wc=>t4= .bool (w.sets.isEmpty&&r3)/\Hid (InX W w s wc))
 case first=>
  have d32:=cell_of (i:=32) HX.o.x rfl;rw[et.o] at d32;by_cases hz1:((w.sets.length:Int)=0);rotate_left
  ·have hz:(((w.sets.length:Int)==0):Bool)=false:=by simpa using hz1
   have HE:=aB (HS0.o.symm.trans hz);go_wp2
   go_meet
   case rel=>exact⟨by rw[HE.o]<;>rfl,HX.o⟩
  ·have hz:(((w.sets.length:Int)==0):Bool)=true:=by simpa using hz1
   have HE:=aB (HS0.o.symm.trans hz);have HX1X:=aB HX.o.x;go_wp2_with (refine wpList_load_midG ar 38 (.tmp 32) rfl W.heap.size 33 rfl (qD w.wher s.wher) _ (range_of HX1X.o rfl) underlying38 rfl d4b ?_)
   refine(HNO.o _ HX.o.b).mono ?_;rintro e wn ⟨rfl,hbn⟩;have HX2:=aB (HX.o.call hbn);clear hbn;go_wp2
   go_meet
   case rel=>exact⟨by rw[HE.o]<;>rfl,HX2.o⟩
 case rest=>
 clear HX HNO;obtain⟨rfl,HX⟩:=hcut;have d31:=cell_of (i:=31) HX.o.x rfl
 go_upto_if 38 with fail
 go_cut [4] from 6 (fun t4 wc=>t4= .bool q2/\Hid (InX W w s wc))
 case first=>
  by_cases ha:w.act=2
  ·have HQ1:=aB (show q2=(r4&&r5) from by rw[HUI.o,if_pos ha]);have hb:(w.act==2)=true:=(by simpa using ha);clear ha;have d32:=cell_of (i:=32) HX.o.x rfl;go_wp2_with fail;refine(HSE.o _ HX.o.b).mono ?_;rintro e wn ⟨rfl,hbn⟩;have HX2:=aB (HX.o.call hbn);clear hbn d32;cases r4
   ·go_wp2
    go_meet
    case rel=>exact⟨by rw[HQ1.o];rfl,HX2.o⟩
   ·have HX1X:=aB HX2.o.x;go_wp2_with (refine wpList_load_midG ar 38 (.tmp 43) rfl W.heap.size 33 rfl (qD w.wher s.wher) _ (range_of HX1X.o rfl) underlying38 rfl d4b ?_)
    refine(HMA.o _ HX2.o.b).mono ?_;rintro e wn ⟨rfl,hbn⟩;have HX3:=aB (HX2.o.call hbn);clear hbn;go_wp2
    go_meet
    case rel=>exact⟨by rw[HQ1.o];rfl,HX3.o⟩
  ·have HQ1:=aB (show q2=(w.sets.isEmpty&&r3) from by rw[HUI.o,if_neg ha]);have hb:(w.act==2)=false:=(by simpa using ha);clear ha;go_wp2
   go_meet
   case rel=>exact⟨by rw[HQ1.o],HX.o⟩
 case rest=>
 clear HX HSE HMA HUI HS0 d31;obtain⟨rfl,HX⟩:=hcut;have d30:=cell_of (i:=30) HX.o.x rfl;go_wp2_with fail;refine(HCF.o _ HX.o.b).mono ?_;rintro e wn ⟨rfl,hbn⟩
 replace HX:=aB (HX.o.call hbn)
 clear hbn d30;have d31:=cell_of (i:=31) HX.o.x rfl
 go_upto_if 52 with fail
 go_cut [5] from 6 (fun t5 wc=>t5= .bool q3/\Hid (InX W w s wc))
 case first=>
  by_cases ha:w.act=0
  ·have HQ1:=aB (show q3=w.conf.isEmpty from by rw[HCI.o,if_pos ha]);have hb:(w.act==0)=true:=(by simpa using ha);clear ha;have d30:=cell_of (i:=30) HX.o.x rfl;rw[ec.o] at d30;rw[<-HF0.o] at HQ1;go_wp2
   go_meet
   case rel=>exact⟨by rw[HQ1.o],HX.o⟩
  ·have HQ1:=aB (show q3=r6 from by rw[HCI.o,if_neg ha]);have hb:(w.act==0)=false:=(by simpa using ha);clear ha;go_wp2
   go_meet
   case rel=>exact⟨by rw[HQ1.o],HX.o⟩
 case rest=>
 clear HX HCF HCI HF0 d31;obtain⟨rfl,HX⟩:=hcut;have d31:=cell_of (i:=31) HX.o.x rfl;have d3:=cell_of (i:=3) HX.o.x rfl;cases q1
 ·go_wp2;go_ret;exact⟨rfl,HX.o.b⟩
 cases q2
 ·go_wp2;go_ret;exact⟨rfl,HX.o.b⟩
 cases q3
 ·go_wp2;go_ret;exact⟨rfl,HX.o.b⟩
 by_cases ha:0<=w.act
 case neg=>
  have hb:decide (0<=w.act)=false:=decide_eq_false ha;have HA:=aB hb;go_wp2;go_ret;exact⟨by first |rfl|(rw[HA.o];first |rfl|simp),HX.o.b⟩
 have hb:decide (0<=w.act)=true:=decide_eq_true ha;have HA:=aB hb;by_cases hc:w.act<=2
 case neg=>
  have hb2:decide (w.act<=2)=false:=decide_eq_false hc;have HC:=aB hb2;go_wp2;go_ret;exact⟨by first |rfl|(rw[HC.o];rfl)|(rw[HA.o,HC.o];rfl)|simp,HX.o.b⟩
 have hb2:decide (w.act<=2)=true:=decide_eq_true hc;have HC:=aB hb2;go_wp2_with fail;refine(HCO.o _ HX.o.b).mono ?_;rintro e wn ⟨rfl,hbn⟩;go_wp2;go_ret;exact⟨by first |rfl|(rw[HC.o];rfl)|(rw[HA.o,HC.o];rfl)|(rw[HA.o];rfl)|simp,HX.o.b.call hbn⟩
end
end
end Go.Proofs.YtohlomdapelgeaaGreatDoor
