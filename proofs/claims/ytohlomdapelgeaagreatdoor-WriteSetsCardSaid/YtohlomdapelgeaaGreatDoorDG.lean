/- Texts TC. -/
import Derived.Test.YtohlomdapelgeaaGreatDoorDF
import Derived.Test.YtohlomdapelgeaaGreatDoorCG
namespace Go.Proofs.YtohlomdapelgeaaGreatDoor
open _root_.Go.Proofs.Tryz
open Go.RowKit
open _root_.Bool renaming false_and->pK,true_and->rC
open _root_.Go.Lib renaming hid->aB
open _root_.List renaming drop_length->dO,getElem_mem->dS,size_toArray->gG
open _root_.Nat renaming zero_le->dL
set_option maxRecDepth 100000
set_option maxHeartbeats 4000000
section
theorem zindexRow{W:World}{a:Option Addr}{cap:Nat}{l:List (List Ex)}{pB:(List Ex)->Bool}{q:Nat->Prop}{fn:FuncId}(caps:Array Value)(hen:∀(args:Array Value) (w:World),(callFunc fn args).run prog w= .ok (.enter fn args) w)(hlen:l.length<=1000000)(hR:RowsG gRow q W (.slice a l.length cap) l)
  (hf:∀y∈l,∀(W':World) (s:Value),Bl W W'->Shp.lies gRow q W' y [s]->eg fn (#[s]++caps) W' fun e w'=>e= .returned (.bool (pB y))/\Bl W' w'):
  eg 205 #[.slice a l.length cap,.func (.func fn) #[] caps] W fun e w'=>(∃z:Int,e= .returned (.int .i64 z)/\decide (0<=z)=l.any pB)/\Bl W w':=by
 obtain⟨a',cap',e,hc⟩:=hR.shape;obtain⟨rfl,rfl⟩:a=a'/\cap=cap':=ba;obtain⟨R,HRR⟩:∃R,Hid (l.any pB=R):=⟨_,rfl⟩
 rw[HRR.o];have HC:=aB hc;have HF:=aB hf;clear hR hc hf e;go_enter func205,ntmps205;go_wp2_with fail;go_loopw [8] (fun i wr=>∃j:Nat,j<=l.length/\i= .int .i64 (j:Int)/\Hid (R=(l.drop j).any pB)/\Hid (Bl W wr)) (fun i _=>l.length-(intOf i).toNat)
 case atStart=>exact⟨0,dL _,rfl,HRR.o.symm,Bl.refl W⟩
 case round=>
  obtain⟨j,hj,rfl,HD,HB⟩:=hrel;by_cases hlt:j<l.length
  ·obtain⟨b,off,cs,rfl,-,hbl,hcs,hlies⟩:=HC.o j hlt;obtain⟨s,rfl,hshape⟩:∃s,cs=[s]/\∃a c,s= .slice a l[j].length c:=by
    obtain⟨s,h1,h2⟩:=hlies;exact⟨s,h1,h2.shape⟩
   have e0:wr.cell? ⟨b,off+j,none⟩=some s:=by
    have h:=(hcs.keep (HB.o.block b hbl)) 0 s rfl;simpa[gRow] using h
   have HLI:=aB (Shp.keep gRow (r:=q) HB.o.size (fun _ _ h=>h) (fun b _ hl=>HB.o.block b hl) hlies);have HDj:=aB (HD.o.trans (d6z hlt));have HM:=aB (dS hlt);have hlt':(j:Int)<(l.length:Int):=aE;obtain⟨sa,sc,rfl⟩:=hshape;obtain⟨sn,hsn⟩:∃n,l[j].length=n:=⟨_,rfl⟩
   rw[hsn] at e0 HLI;clear hsn;clear hcs hlies;generalize l[j]=y at *;go_wp2_with fail;refine(HF.o y HM.o wr _ HB.o HLI.o).mono ?_;rintro e w1 ⟨rfl,hb1⟩;have HB1:=aB (HB.o.call hb1);clear hb1 HLI;cases hs:pB y
   ·have HN:=aB (show R=(l.drop (j+1)).any pB from by rw[HDj.o,hs,Bool.false_or]);clear hs;go_wp2;go_roundw
    case rel=>exact⟨j+1,by omega,by go_num,HN.o,HB1.o⟩
    case measure=>simp[intOf];omega
   ·have HN:=aB (show decide (0<=(j:Int))=R from by rw[HDj.o,hs,Bool.true_or];simp);clear hs;go_wp2;go_ret;exact⟨⟨_,rfl,HN.o⟩,HB1.o⟩
  ·obtain rfl:j=l.length:=by omega
   have HN:=aB (show decide (0<=(-1:Int))=R from by rw[HD.o,dO];rfl);have hge:¬((l.length:Int)<(l.length:Int)):=aE;go_wp2;go_ret;exact⟨⟨_,rfl,HN.o⟩,HB.o⟩
theorem zholdsRow{W:World}{a:Option Addr}{cap:Nat}{l:List (List Ex)}{pB:(List Ex)->Bool}{q:Nat->Prop}{fn:FuncId}(caps:Array Value)(hen:∀(args:Array Value) (w:World),(callFunc fn args).run prog w= .ok (.enter fn args) w)(hlen:l.length<=1000000)(hR:RowsG gRow q W (.slice a l.length cap) l)
  (hf:∀y∈l,∀(W':World) (s:Value),Bl W W'->Shp.lies gRow q W' y [s]->eg fn (#[s]++caps) W' fun e w'=>e= .returned (.bool (pB y))/\Bl W' w'):
  eg 140 #[.slice a l.length cap,.func (.func fn) #[] caps] W fun e w'=>e= .returned (.bool (l.any pB))/\Bl W w':=by
 have H1:=aB (zindexRow caps hen hlen hR hf);generalize l.any pB=R at *;generalize l.length=m at *;clear hR hf hlen hen;go_enter func140,ntmps140;go_wp2_with fail;refine H1.o.mono ?_;rintro e w1 ⟨⟨z,rfl,hz⟩,hb1⟩;have HZ:=aB hz;clear hz;go_wp2;go_ret;exact⟨by rw[<-HZ.o];rfl,hb1⟩
theorem zeachRow1_any{W:World}{y:(List Ex)}{s:Value}{q:Nat->Prop}(hls:Shp.lies gRow q W y [s]){v:Bool}{g bx:Nat}(heng:∀(args:Array Value) (w:World),(callFunc g args).run prog w= .ok (.enter g args) w)(hx:W.cell? ⟨bx,0,none⟩=some (.func (.func g) #[] #[]))
  (hg:∀W',Bl W W'->eg g #[s] W' fun e w'=>e= .returned (.bool v)/\Bl W' w'):
  eg 141 #[s,.pointer (some ⟨bx,0,none⟩)] W fun e w'=>e= .returned (.bool (!v))/\Bl W w':=by
 obtain⟨m,hm⟩:∃m:Nat,y.length=m:=⟨_,rfl⟩
 obtain⟨s',h1,h2⟩:=hls;obtain⟨sa,sc,e⟩:=h2.shape;rw[hm] at e;obtain rfl:s=s':=cC;subst e;clear h2 h1 hm;have HG:=aB hg;clear hg;go_enter func141,ntmps141;go_wp2_with fail;refine(HG.o _ (Bl.refl _)).mono ?_;rintro e w1 ⟨rfl,hb1⟩;go_wp2;go_ret;exact⟨rfl,hb1⟩
theorem enters_zeachRow1(args:Array Value)(w:World):(callFunc 141 args).run prog w= .ok (.enter 141 args) w:=by
 simp[go_sem]
theorem zeachRow_any{W:World}{v:Value}{l:List (List Ex)}{pB:(List Ex)->Bool}{q:Nat->Prop}{g:FuncId}(heng:∀(args:Array Value) (w:World),(callFunc g args).run prog w= .ok (.enter g args) w)(hlen:l.length<=1000000)(hR:RowsG gRow q W v l)(least most:Int)
  (hg:∀y∈l,∀(W':World) (s:Value),Bl W W'->Shp.lies gRow q W' y [s]->eg g #[s] W' fun e w'=>e= .returned (.bool (pB y))/\Bl W' w'):
  eg 97 #[v,.int .i64 least,.int .i64 most,.func (.func g) #[] #[]] W fun e w'=>e= .returned (.bool (decide (least<=(l.length:Int))&&decide ((l.length:Int)<=most)&&l.all pB))/\Bl W w':=by
 obtain⟨a,cap,rfl,-⟩:=hR.shape;have HB0:=aB ((Bl.refl W).alloc (.cells #[.func (.func g) #[] #[]] 85));have hb0:=cK (aN W (.cells #[.func (.func g) #[] #[]] 85));have H1:=aB (zholdsRow (W:=W.alloc (.cells #[.func (.func g) #[] #[]] 85)) #[.pointer (some ⟨W.heap.size,0,none⟩)] enters_zeachRow1 hlen (hR.bl HB0.o) (pB:=fun y=> !pB y)
  fun y hy W' s hb hr=>zeachRow1_any hr heng (hb.cell hb0) fun W2 hb2=>hg y hy W2 _ ((HB0.o.call hb).call hb2) (Shp.keep gRow (r:=q) hb2.size (fun _ _ h=>h) (fun b _ hl=>hb2.block b hl) hr))
 by_cases hm0:least<=(l.length:Int)
 case neg=>
  rw[decide_eq_false hm0,pK,pK];generalize l.length=m at *;clear H1 hR hg hlen hb0;go_enter func97,ntmps97;go_wp2;go_ret;exact⟨rfl,HB0.o⟩
 by_cases hm:(l.length:Int)<=most
 case neg=>
  rw[decide_eq_true hm0,decide_eq_false hm,Bool.and_false,pK];generalize l.length=m at *;clear H1 hR hg hlen hb0;go_enter func97,ntmps97;go_wp2;go_ret;exact⟨rfl,HB0.o⟩
 rw[decide_eq_true hm,decide_eq_true hm0,rC,rC,<-d9b];generalize (l.any fun y=> !pB y)=R at *;generalize l.length=m at *;clear hR hg hlen hb0;go_enter func97,ntmps97;go_wp2_with fail;refine H1.o.mono ?_;rintro e w1 ⟨rfl,hb1⟩;go_wp2;go_ret;exact⟨rfl,HB0.o.call hb1⟩
theorem zindexStr{W:World}{a:Option Addr}{cap:Nat}{l:List (List UInt8)}{pB:(List UInt8)->Bool}{q:Nat->Prop}{fn:FuncId}(caps:Array Value)(hen:∀(args:Array Value) (w:World),(callFunc fn args).run prog w= .ok (.enter fn args) w)(hlen:l.length<=1000000)(hR:RowsG gStr q W (.slice a l.length cap) l)
  (hf:∀y∈l,∀(W':World) (s:Value),Bl W W'->Shp.lies gStr q W' y [s]->eg fn (#[s]++caps) W' fun e w'=>e= .returned (.bool (pB y))/\Bl W' w'):
  eg 126 #[.slice a l.length cap,.func (.func fn) #[] caps] W fun e w'=>(∃z:Int,e= .returned (.int .i64 z)/\decide (0<=z)=l.any pB)/\Bl W w':=by
 obtain⟨a',cap',e,hc⟩:=hR.shape;obtain⟨rfl,rfl⟩:a=a'/\cap=cap':=ba;obtain⟨R,HRR⟩:∃R,Hid (l.any pB=R):=⟨_,rfl⟩
 rw[HRR.o];have HC:=aB hc;have HF:=aB hf;clear hR hc hf e;go_enter func126,ntmps126;go_wp2_with fail;go_loopw [8] (fun i wr=>∃j:Nat,j<=l.length/\i= .int .i64 (j:Int)/\Hid (R=(l.drop j).any pB)/\Hid (Bl W wr)) (fun i _=>l.length-(intOf i).toNat)
 case atStart=>exact⟨0,dL _,rfl,HRR.o.symm,Bl.refl W⟩
 case round=>
  obtain⟨j,hj,rfl,HD,HB⟩:=hrel;by_cases hlt:j<l.length
  ·obtain⟨b,off,cs,rfl,-,hbl,hcs,hlies⟩:=HC.o j hlt;obtain⟨s,rfl,hshape⟩:∃s,cs=[s]/\s=S l[j]:=by
    exact⟨_,hlies,rfl⟩
   have e0:wr.cell? ⟨b,off+j,none⟩=some s:=by
    have h:=(hcs.keep (HB.o.block b hbl)) 0 s rfl;simpa[gStr] using h
   have HLI:=aB (Shp.keep gStr (r:=q) HB.o.size (fun _ _ h=>h) (fun b _ hl=>HB.o.block b hl) hlies);have HDj:=aB (HD.o.trans (d6z hlt));have HM:=aB (dS hlt);have hlt':(j:Int)<(l.length:Int):=aE;subst hshape;clear hcs hlies;generalize l[j]=y at *;go_wp2_with fail;refine(HF.o y HM.o wr _ HB.o HLI.o).mono ?_;rintro e w1 ⟨rfl,hb1⟩;have HB1:=aB (HB.o.call hb1);clear hb1 HLI;cases hs:pB y
   ·have HN:=aB (show R=(l.drop (j+1)).any pB from by rw[HDj.o,hs,Bool.false_or]);clear hs;go_wp2;go_roundw
    case rel=>exact⟨j+1,by omega,by go_num,HN.o,HB1.o⟩
    case measure=>simp[intOf];omega
   ·have HN:=aB (show decide (0<=(j:Int))=R from by rw[HDj.o,hs,Bool.true_or];simp);clear hs;go_wp2;go_ret;exact⟨⟨_,rfl,HN.o⟩,HB1.o⟩
  ·obtain rfl:j=l.length:=by omega
   have HN:=aB (show decide (0<=(-1:Int))=R from by rw[HD.o,dO];rfl);have hge:¬((l.length:Int)<(l.length:Int)):=aE;go_wp2;go_ret;exact⟨⟨_,rfl,HN.o⟩,HB.o⟩
theorem zholdsStr{W:World}{a:Option Addr}{cap:Nat}{l:List (List UInt8)}{pB:(List UInt8)->Bool}{q:Nat->Prop}{fn:FuncId}(caps:Array Value)(hen:∀(args:Array Value) (w:World),(callFunc fn args).run prog w= .ok (.enter fn args) w)(hlen:l.length<=1000000)(hR:RowsG gStr q W (.slice a l.length cap) l)
  (hf:∀y∈l,∀(W':World) (s:Value),Bl W W'->Shp.lies gStr q W' y [s]->eg fn (#[s]++caps) W' fun e w'=>e= .returned (.bool (pB y))/\Bl W' w'):
  eg 153 #[.slice a l.length cap,.func (.func fn) #[] caps] W fun e w'=>e= .returned (.bool (l.any pB))/\Bl W w':=by
 have H1:=aB (zindexStr caps hen hlen hR hf);generalize l.any pB=R at *;generalize l.length=m at *;clear hR hf hlen hen;go_enter func153,ntmps153;go_wp2_with fail;refine H1.o.mono ?_;rintro e w1 ⟨⟨z,rfl,hz⟩,hb1⟩;have HZ:=aB hz;clear hz;go_wp2;go_ret;exact⟨by rw[<-HZ.o];rfl,hb1⟩
theorem zeachStr1_any{W:World}{y:(List UInt8)}{s:Value}{q:Nat->Prop}(hls:Shp.lies gStr q W y [s]){v:Bool}{g bx:Nat}(heng:∀(args:Array Value) (w:World),(callFunc g args).run prog w= .ok (.enter g args) w)(hx:W.cell? ⟨bx,0,none⟩=some (.func (.func g) #[] #[]))
  (hg:∀W',Bl W W'->eg g #[s] W' fun e w'=>e= .returned (.bool v)/\Bl W' w'):
  eg 154 #[s,.pointer (some ⟨bx,0,none⟩)] W fun e w'=>e= .returned (.bool (!v))/\Bl W w':=by
 obtain⟨m,hm⟩:∃m:Nat,y.length=m:=⟨_,rfl⟩
 obtain rfl:s=S y:=(by simpa using(show[s]=[S y] from hls));clear hls hm;have HG:=aB hg;clear hg;go_enter func154,ntmps154;go_wp2_with fail;refine(HG.o _ (Bl.refl _)).mono ?_;rintro e w1 ⟨rfl,hb1⟩;go_wp2;go_ret;exact⟨rfl,hb1⟩
theorem enters_zeachStr1(args:Array Value)(w:World):(callFunc 154 args).run prog w= .ok (.enter 154 args) w:=by
 simp[go_sem]
theorem zeachStr_any{W:World}{v:Value}{l:List (List UInt8)}{pB:(List UInt8)->Bool}{q:Nat->Prop}{g:FuncId}(heng:∀(args:Array Value) (w:World),(callFunc g args).run prog w= .ok (.enter g args) w)(hlen:l.length<=1000000)(hR:RowsG gStr q W v l)(least most:Int)
  (hg:∀y∈l,∀(W':World) (s:Value),Bl W W'->Shp.lies gStr q W' y [s]->eg g #[s] W' fun e w'=>e= .returned (.bool (pB y))/\Bl W' w'):
  eg 103 #[v,.int .i64 least,.int .i64 most,.func (.func g) #[] #[]] W fun e w'=>e= .returned (.bool (decide (least<=(l.length:Int))&&decide ((l.length:Int)<=most)&&l.all pB))/\Bl W w':=by
 obtain⟨a,cap,rfl,-⟩:=hR.shape;have HB0:=aB ((Bl.refl W).alloc (.cells #[.func (.func g) #[] #[]] 144));have hb0:=cK (aN W (.cells #[.func (.func g) #[] #[]] 144));have H1:=aB (zholdsStr (W:=W.alloc (.cells #[.func (.func g) #[] #[]] 144)) #[.pointer (some ⟨W.heap.size,0,none⟩)] enters_zeachStr1 hlen (hR.bl HB0.o) (pB:=fun y=> !pB y)
  fun y hy W' s hb hr=>zeachStr1_any hr heng (hb.cell hb0) fun W2 hb2=>hg y hy W2 _ ((HB0.o.call hb).call hb2) (Shp.keep gStr (r:=q) hb2.size (fun _ _ h=>h) (fun b _ hl=>hb2.block b hl) hr))
 by_cases hm0:least<=(l.length:Int)
 case neg=>
  rw[decide_eq_false hm0,pK,pK];generalize l.length=m at *;clear H1 hR hg hlen hb0;go_enter func103,ntmps103;go_wp2;go_ret;exact⟨rfl,HB0.o⟩
 by_cases hm:(l.length:Int)<=most
 case neg=>
  rw[decide_eq_true hm0,decide_eq_false hm,Bool.and_false,pK];generalize l.length=m at *;clear H1 hR hg hlen hb0;go_enter func103,ntmps103;go_wp2;go_ret;exact⟨rfl,HB0.o⟩
 rw[decide_eq_true hm,decide_eq_true hm0,rC,rC,<-d9b];generalize (l.any fun y=> !pB y)=R at *;generalize l.length=m at *;clear hR hg hlen hb0;go_enter func103,ntmps103;go_wp2_with fail;refine H1.o.mono ?_;rintro e w1 ⟨rfl,hb1⟩;go_wp2;go_ret;exact⟨rfl,HB0.o.call hb1⟩
theorem zindexSet{W:World}{a:Option Addr}{cap:Nat}{l:List St}{pB:St->Bool}{q:Nat->Prop}{fn:FuncId}(caps:Array Value)(hen:∀(args:Array Value) (w:World),(callFunc fn args).run prog w= .ok (.enter fn args) w)(hlen:l.length<=1000000)(hR:RowsG gSt q W (.slice a l.length cap) l)
  (hf:∀y∈l,∀(W':World) (cs:List Value),Bl W W'->Shp.lies gSt q W' y cs->eg fn (#[.agg cs.toArray]++caps) W' fun e w'=>e= .returned (.bool (pB y))/\Bl W' w'):
  eg 257 #[.slice a l.length cap,.func (.func fn) #[] caps] W fun e w'=>(∃z:Int,e= .returned (.int .i64 z)/\decide (0<=z)=l.any pB)/\Bl W w':=by
 obtain⟨a',cap',e,hc⟩:=hR.shape;obtain⟨rfl,rfl⟩:a=a'/\cap=cap':=ba;obtain⟨R,HRR⟩:∃R,Hid (l.any pB=R):=⟨_,rfl⟩
 rw[HRR.o];have HC:=aB hc;have HF:=aB hf;clear hR hc hf e;go_enter func257,ntmps257;go_wp2_with fail;go_loopw [8] (fun i wr=>∃j:Nat,j<=l.length/\i= .int .i64 (j:Int)/\Hid (R=(l.drop j).any pB)/\Hid (Bl W wr)) (fun i _=>l.length-(intOf i).toNat)
 case atStart=>exact⟨0,dL _,rfl,HRR.o.symm,Bl.refl W⟩
 case round=>
  obtain⟨j,hj,rfl,HD,HB⟩:=hrel;by_cases hlt:j<l.length
  ·obtain⟨b,off,cs,rfl,-,hbl,hcs,hlies⟩:=HC.o j hlt;have HCL:=aB (show cs.length=9 from Shp.len gSt hlies);have HCS:=aB (hcs.keep (HB.o.block b hbl)).range;have HLI:=aB (Shp.keep gSt (r:=q) HB.o.size (fun _ _ h=>h) (fun b _ hl=>HB.o.block b hl) hlies);have HDj:=aB (HD.o.trans (d6z hlt));have HM:=aB (dS hlt);have hlt':(j:Int)<(l.length:Int):=aE;clear hcs hlies;generalize l[j]=y at *;go_wp2_with (refine wpList_load_mid rfl 63 (.tmp 14) rfl b (off+j * 9) rfl cs _ HCS.o underlying63 rfl de ?_)
   refine(HF.o y HM.o wr cs HB.o HLI.o).mono ?_;rintro e w1 ⟨rfl,hb1⟩;have HB1:=aB (HB.o.call hb1);clear hb1 HLI;cases hs:pB y
   ·have HN:=aB (show R=(l.drop (j+1)).any pB from by rw[HDj.o,hs,Bool.false_or]);clear hs;go_wp2;go_roundw
    case rel=>exact⟨j+1,by omega,by go_num,HN.o,HB1.o⟩
    case measure=>simp[intOf];omega
   ·have HN:=aB (show decide (0<=(j:Int))=R from by rw[HDj.o,hs,Bool.true_or];simp);clear hs;go_wp2;go_ret;exact⟨⟨_,rfl,HN.o⟩,HB1.o⟩
  ·obtain rfl:j=l.length:=by omega
   have HN:=aB (show decide (0<=(-1:Int))=R from by rw[HD.o,dO];rfl);have hge:¬((l.length:Int)<(l.length:Int)):=aE;go_wp2;go_ret;exact⟨⟨_,rfl,HN.o⟩,HB.o⟩
theorem zholdsSet{W:World}{a:Option Addr}{cap:Nat}{l:List St}{pB:St->Bool}{q:Nat->Prop}{fn:FuncId}(caps:Array Value)(hen:∀(args:Array Value) (w:World),(callFunc fn args).run prog w= .ok (.enter fn args) w)(hlen:l.length<=1000000)(hR:RowsG gSt q W (.slice a l.length cap) l)
  (hf:∀y∈l,∀(W':World) (cs:List Value),Bl W W'->Shp.lies gSt q W' y cs->eg fn (#[.agg cs.toArray]++caps) W' fun e w'=>e= .returned (.bool (pB y))/\Bl W' w'):
  eg 214 #[.slice a l.length cap,.func (.func fn) #[] caps] W fun e w'=>e= .returned (.bool (l.any pB))/\Bl W w':=by
 have H1:=aB (zindexSet caps hen hlen hR hf);generalize l.any pB=R at *;generalize l.length=m at *;clear hR hf hlen hen;go_enter func214,ntmps214;go_wp2_with fail;refine H1.o.mono ?_;rintro e w1 ⟨⟨z,rfl,hz⟩,hb1⟩;have HZ:=aB hz;clear hz;go_wp2;go_ret;exact⟨by rw[<-HZ.o];rfl,hb1⟩
theorem zeachSet1_any{W:World}{cs:List Value}(hcl:cs.length=9){v:Bool}{g bx:Nat}(heng:∀(args:Array Value) (w:World),(callFunc g args).run prog w= .ok (.enter g args) w)(hx:W.cell? ⟨bx,0,none⟩=some (.func (.func g) #[] #[]))
  (hg:∀W',Bl W W'->eg g #[.agg cs.toArray] W' fun e w'=>e= .returned (.bool v)/\Bl W' w'):
  eg 215 #[.agg cs.toArray,.pointer (some ⟨bx,0,none⟩)] W fun e w'=>e= .returned (.bool (!v))/\Bl W w':=by
 have HG:=aB hg;have HI2:=aB (show(prog.info? 63).map (·.size)=some cs.toArray.size from by rw[gG,hcl];exact setInfo);clear hg hcl;go_enter func215,ntmps215;go_wp2_with (refine wpList_boxO rfl 63 (.tmp 0) rfl cs rfl ?_)
 intro w0 hb0 hX0;have HB0:=aB hb0;have HX0:=aB hX0;have hx0:=hb0.cell hx;clear hb0 hX0;go_wp2_with (refine wpList_load_row rfl 63 (.tmp 2) rfl W.heap.size rfl 63 _ (0,0) _ HX0.o underlying63 rfl HI2.o ?_)
 refine(HG.o _ HB0.o).mono ?_;rintro e w1 ⟨rfl,hb1⟩;go_wp2;go_ret;exact⟨rfl,HB0.o.call hb1⟩
theorem enters_zeachSet1(args:Array Value)(w:World):(callFunc 215 args).run prog w= .ok (.enter 215 args) w:=by
 simp[go_sem]
theorem zeachSet_any{W:World}{v:Value}{l:List St}{pB:St->Bool}{q:Nat->Prop}{g:FuncId}(heng:∀(args:Array Value) (w:World),(callFunc g args).run prog w= .ok (.enter g args) w)(hlen:l.length<=1000000)(hR:RowsG gSt q W v l)(least most:Int)
  (hg:∀y∈l,∀(W':World) (cs:List Value),Bl W W'->Shp.lies gSt q W' y cs->eg g #[.agg cs.toArray] W' fun e w'=>e= .returned (.bool (pB y))/\Bl W' w'):
  eg 151 #[v,.int .i64 least,.int .i64 most,.func (.func g) #[] #[]] W fun e w'=>e= .returned (.bool (decide (least<=(l.length:Int))&&decide ((l.length:Int)<=most)&&l.all pB))/\Bl W w':=by
 obtain⟨a,cap,rfl,-⟩:=hR.shape;have HB0:=aB ((Bl.refl W).alloc (.cells #[.func (.func g) #[] #[]] 150));have hb0:=cK (aN W (.cells #[.func (.func g) #[] #[]] 150));have H1:=aB (zholdsSet (W:=W.alloc (.cells #[.func (.func g) #[] #[]] 150)) #[.pointer (some ⟨W.heap.size,0,none⟩)] enters_zeachSet1 hlen (hR.bl HB0.o) (pB:=fun y=> !pB y)
  fun y hy W' cs hb hr=>zeachSet1_any (Shp.len gSt hr) heng (hb.cell hb0) fun W2 hb2=>hg y hy W2 _ ((HB0.o.call hb).call hb2) (Shp.keep gSt (r:=q) hb2.size (fun _ _ h=>h) (fun b _ hl=>hb2.block b hl) hr))
 by_cases hm0:least<=(l.length:Int)
 case neg=>
  rw[decide_eq_false hm0,pK,pK];generalize l.length=m at *;clear H1 hR hg hlen hb0;go_enter func151,ntmps151;go_wp2;go_ret;exact⟨rfl,HB0.o⟩
 by_cases hm:(l.length:Int)<=most
 case neg=>
  rw[decide_eq_true hm0,decide_eq_false hm,Bool.and_false,pK];generalize l.length=m at *;clear H1 hR hg hlen hb0;go_enter func151,ntmps151;go_wp2;go_ret;exact⟨rfl,HB0.o⟩
 rw[decide_eq_true hm,decide_eq_true hm0,rC,rC,<-d9b];generalize (l.any fun y=> !pB y)=R at *;generalize l.length=m at *;clear hR hg hlen hb0;go_enter func151,ntmps151;go_wp2_with fail;refine H1.o.mono ?_;rintro e w1 ⟨rfl,hb1⟩;go_wp2;go_ret;exact⟨rfl,HB0.o.call hb1⟩
theorem zindexEx{W:World}{a:Option Addr}{cap:Nat}{l:List Ex}{pB:Ex->Bool}{q:Nat->Prop}{fn:FuncId}(caps:Array Value)(hen:∀(args:Array Value) (w:World),(callFunc fn args).run prog w= .ok (.enter fn args) w)(hlen:l.length<=1000000)(hR:RowsG gEx q W (.slice a l.length cap) l)
  (hf:∀y∈l,∀(W':World) (cs:List Value),Bl W W'->Shp.lies gEx q W' y cs->eg fn (#[.agg cs.toArray]++caps) W' fun e w'=>e= .returned (.bool (pB y))/\Bl W' w'):
  eg 254 #[.slice a l.length cap,.func (.func fn) #[] caps] W fun e w'=>(∃z:Int,e= .returned (.int .i64 z)/\decide (0<=z)=l.any pB)/\Bl W w':=by
 obtain⟨a',cap',e,hc⟩:=hR.shape;obtain⟨rfl,rfl⟩:a=a'/\cap=cap':=ba;obtain⟨R,HRR⟩:∃R,Hid (l.any pB=R):=⟨_,rfl⟩
 rw[HRR.o];have HC:=aB hc;have HF:=aB hf;clear hR hc hf e;go_enter func254,ntmps254;go_wp2_with fail;go_loopw [8] (fun i wr=>∃j:Nat,j<=l.length/\i= .int .i64 (j:Int)/\Hid (R=(l.drop j).any pB)/\Hid (Bl W wr)) (fun i _=>l.length-(intOf i).toNat)
 case atStart=>exact⟨0,dL _,rfl,HRR.o.symm,Bl.refl W⟩
 case round=>
  obtain⟨j,hj,rfl,HD,HB⟩:=hrel;by_cases hlt:j<l.length
  ·obtain⟨b,off,cs,rfl,-,hbl,hcs,hlies⟩:=HC.o j hlt;have HCL:=aB (show cs.length=8 from Shp.len gEx hlies);have HCS:=aB (hcs.keep (HB.o.block b hbl)).range;have HLI:=aB (Shp.keep gEx (r:=q) HB.o.size (fun _ _ h=>h) (fun b _ hl=>HB.o.block b hl) hlies);have HDj:=aB (HD.o.trans (d6z hlt));have HM:=aB (dS hlt);have hlt':(j:Int)<(l.length:Int):=aE;clear hcs hlies;generalize l[j]=y at *;go_wp2_with (refine wpList_load_mid rfl 38 (.tmp 14) rfl b (off+j * 8) rfl cs _ HCS.o underlying38 rfl (by rw[HCL.o];exact d4b) ?_)
   refine(HF.o y HM.o wr cs HB.o HLI.o).mono ?_;rintro e w1 ⟨rfl,hb1⟩;have HB1:=aB (HB.o.call hb1);clear hb1 HLI;cases hs:pB y
   ·have HN:=aB (show R=(l.drop (j+1)).any pB from by rw[HDj.o,hs,Bool.false_or]);clear hs;go_wp2;go_roundw
    case rel=>exact⟨j+1,by omega,by go_num,HN.o,HB1.o⟩
    case measure=>simp[intOf];omega
   ·have HN:=aB (show decide (0<=(j:Int))=R from by rw[HDj.o,hs,Bool.true_or];simp);clear hs;go_wp2;go_ret;exact⟨⟨_,rfl,HN.o⟩,HB1.o⟩
  ·obtain rfl:j=l.length:=by omega
   have HN:=aB (show decide (0<=(-1:Int))=R from by rw[HD.o,dO];rfl);have hge:¬((l.length:Int)<(l.length:Int)):=aE;go_wp2;go_ret;exact⟨⟨_,rfl,HN.o⟩,HB.o⟩
theorem zholdsEx{W:World}{a:Option Addr}{cap:Nat}{l:List Ex}{pB:Ex->Bool}{q:Nat->Prop}{fn:FuncId}(caps:Array Value)(hen:∀(args:Array Value) (w:World),(callFunc fn args).run prog w= .ok (.enter fn args) w)(hlen:l.length<=1000000)(hR:RowsG gEx q W (.slice a l.length cap) l)
  (hf:∀y∈l,∀(W':World) (cs:List Value),Bl W W'->Shp.lies gEx q W' y cs->eg fn (#[.agg cs.toArray]++caps) W' fun e w'=>e= .returned (.bool (pB y))/\Bl W' w'):
  eg 206 #[.slice a l.length cap,.func (.func fn) #[] caps] W fun e w'=>e= .returned (.bool (l.any pB))/\Bl W w':=by
 have H1:=aB (zindexEx caps hen hlen hR hf);generalize l.any pB=R at *;generalize l.length=m at *;clear hR hf hlen hen;go_enter func206,ntmps206;go_wp2_with fail;refine H1.o.mono ?_;rintro e w1 ⟨⟨z,rfl,hz⟩,hb1⟩;have HZ:=aB hz;clear hz;go_wp2;go_ret;exact⟨by rw[<-HZ.o];rfl,hb1⟩
theorem zeachEx1_any{W:World}{cs:List Value}(hcl:cs.length=8){v:Bool}{g bx:Nat}(heng:∀(args:Array Value) (w:World),(callFunc g args).run prog w= .ok (.enter g args) w)(hx:W.cell? ⟨bx,0,none⟩=some (.func (.func g) #[] #[]))
  (hg:∀W',Bl W W'->eg g #[.agg cs.toArray] W' fun e w'=>e= .returned (.bool v)/\Bl W' w'):
  eg 207 #[.agg cs.toArray,.pointer (some ⟨bx,0,none⟩)] W fun e w'=>e= .returned (.bool (!v))/\Bl W w':=by
 have HG:=aB hg;have HI2:=aB (show(prog.info? 38).map (·.size)=some cs.toArray.size from by rw[gG,hcl];exact d4b);clear hg hcl;go_enter func207,ntmps207;go_wp2_with (refine wpList_boxO rfl 38 (.tmp 0) rfl cs rfl ?_)
 intro w0 hb0 hX0;have HB0:=aB hb0;have HX0:=aB hX0;have hx0:=hb0.cell hx;clear hb0 hX0;go_wp2_with (refine wpList_load_row rfl 38 (.tmp 2) rfl W.heap.size rfl 38 _ (0,0) _ HX0.o underlying38 rfl HI2.o ?_)
 refine(HG.o _ HB0.o).mono ?_;rintro e w1 ⟨rfl,hb1⟩;go_wp2;go_ret;exact⟨rfl,HB0.o.call hb1⟩
theorem enters_zeachEx1(args:Array Value)(w:World):(callFunc 207 args).run prog w= .ok (.enter 207 args) w:=by
 simp[go_sem]
theorem zeachEx_any{W:World}{v:Value}{l:List Ex}{pB:Ex->Bool}{q:Nat->Prop}{g:FuncId}(heng:∀(args:Array Value) (w:World),(callFunc g args).run prog w= .ok (.enter g args) w)(hlen:l.length<=1000000)(hR:RowsG gEx q W v l)(least most:Int)
  (hg:∀y∈l,∀(W':World) (cs:List Value),Bl W W'->Shp.lies gEx q W' y cs->eg g #[.agg cs.toArray] W' fun e w'=>e= .returned (.bool (pB y))/\Bl W' w'):
  eg 142 #[v,.int .i64 least,.int .i64 most,.func (.func g) #[] #[]] W fun e w'=>e= .returned (.bool (decide (least<=(l.length:Int))&&decide ((l.length:Int)<=most)&&l.all pB))/\Bl W w':=by
 obtain⟨a,cap,rfl,-⟩:=hR.shape;have HB0:=aB ((Bl.refl W).alloc (.cells #[.func (.func g) #[] #[]] 162));have hb0:=cK (aN W (.cells #[.func (.func g) #[] #[]] 162));have H1:=aB (zholdsEx (W:=W.alloc (.cells #[.func (.func g) #[] #[]] 162)) #[.pointer (some ⟨W.heap.size,0,none⟩)] enters_zeachEx1 hlen (hR.bl HB0.o) (pB:=fun y=> !pB y)
  fun y hy W' cs hb hr=>zeachEx1_any (Shp.len gEx hr) heng (hb.cell hb0) fun W2 hb2=>hg y hy W2 _ ((HB0.o.call hb).call hb2) (Shp.keep gEx (r:=q) hb2.size (fun _ _ h=>h) (fun b _ hl=>hb2.block b hl) hr))
 by_cases hm0:least<=(l.length:Int)
 case neg=>
  rw[decide_eq_false hm0,pK,pK];generalize l.length=m at *;clear H1 hR hg hlen hb0;go_enter func142,ntmps142;go_wp2;go_ret;exact⟨rfl,HB0.o⟩
 by_cases hm:(l.length:Int)<=most
 case neg=>
  rw[decide_eq_true hm0,decide_eq_false hm,Bool.and_false,pK];generalize l.length=m at *;clear H1 hR hg hlen hb0;go_enter func142,ntmps142;go_wp2;go_ret;exact⟨rfl,HB0.o⟩
 rw[decide_eq_true hm,decide_eq_true hm0,rC,rC,<-d9b];generalize (l.any fun y=> !pB y)=R at *;generalize l.length=m at *;clear hR hg hlen hb0;go_enter func142,ntmps142;go_wp2_with fail;refine H1.o.mono ?_;rintro e w1 ⟨rfl,hb1⟩;go_wp2;go_ret;exact⟨rfl,HB0.o.call hb1⟩
theorem zindexWhen{W:World}{a:Option Addr}{cap:Nat}{l:List Wn}{pB:Wn->Bool}{q:Nat->Prop}{fn:FuncId}(caps:Array Value)(hen:∀(args:Array Value) (w:World),(callFunc fn args).run prog w= .ok (.enter fn args) w)(hlen:l.length<=1000000)(hR:RowsG gWn q W (.slice a l.length cap) l)
  (hf:∀y∈l,∀(W':World) (cs:List Value),Bl W W'->Shp.lies gWn q W' y cs->eg fn (#[.agg cs.toArray]++caps) W' fun e w'=>e= .returned (.bool (pB y))/\Bl W' w'):
  eg 218 #[.slice a l.length cap,.func (.func fn) #[] caps] W fun e w'=>(∃z:Int,e= .returned (.int .i64 z)/\decide (0<=z)=l.any pB)/\Bl W w':=by
 obtain⟨a',cap',e,hc⟩:=hR.shape;obtain⟨rfl,rfl⟩:a=a'/\cap=cap':=ba;obtain⟨R,HRR⟩:∃R,Hid (l.any pB=R):=⟨_,rfl⟩
 rw[HRR.o];have HC:=aB hc;have HF:=aB hf;clear hR hc hf e;go_enter func218,ntmps218;go_wp2_with fail;go_loopw [8] (fun i wr=>∃j:Nat,j<=l.length/\i= .int .i64 (j:Int)/\Hid (R=(l.drop j).any pB)/\Hid (Bl W wr)) (fun i _=>l.length-(intOf i).toNat)
 case atStart=>exact⟨0,dL _,rfl,HRR.o.symm,Bl.refl W⟩
 case round=>
  obtain⟨j,hj,rfl,HD,HB⟩:=hrel;by_cases hlt:j<l.length
  ·obtain⟨b,off,cs,rfl,-,hbl,hcs,hlies⟩:=HC.o j hlt;have HCL:=aB (show cs.length=13 from Shp.len gWn hlies);have HCS:=aB (hcs.keep (HB.o.block b hbl)).range;have HLI:=aB (Shp.keep gWn (r:=q) HB.o.size (fun _ _ h=>h) (fun b _ hl=>HB.o.block b hl) hlies);have HDj:=aB (HD.o.trans (d6z hlt));have HM:=aB (dS hlt);have hlt':(j:Int)<(l.length:Int):=aE;clear hcs hlies;generalize l[j]=y at *;go_wp2_with (refine wpList_load_mid rfl 87 (.tmp 14) rfl b (off+j * 13) rfl cs _ HCS.o underlying87 rfl db ?_)
   refine(HF.o y HM.o wr cs HB.o HLI.o).mono ?_;rintro e w1 ⟨rfl,hb1⟩;have HB1:=aB (HB.o.call hb1);clear hb1 HLI;cases hs:pB y
   ·have HN:=aB (show R=(l.drop (j+1)).any pB from by rw[HDj.o,hs,Bool.false_or]);clear hs;go_wp2;go_roundw
    case rel=>exact⟨j+1,by omega,by go_num,HN.o,HB1.o⟩
    case measure=>simp[intOf];omega
   ·have HN:=aB (show decide (0<=(j:Int))=R from by rw[HDj.o,hs,Bool.true_or];simp);clear hs;go_wp2;go_ret;exact⟨⟨_,rfl,HN.o⟩,HB1.o⟩
  ·obtain rfl:j=l.length:=by omega
   have HN:=aB (show decide (0<=(-1:Int))=R from by rw[HD.o,dO];rfl);have hge:¬((l.length:Int)<(l.length:Int)):=aE;go_wp2;go_ret;exact⟨⟨_,rfl,HN.o⟩,HB.o⟩
theorem zholdsWhen{W:World}{a:Option Addr}{cap:Nat}{l:List Wn}{pB:Wn->Bool}{q:Nat->Prop}{fn:FuncId}(caps:Array Value)(hen:∀(args:Array Value) (w:World),(callFunc fn args).run prog w= .ok (.enter fn args) w)(hlen:l.length<=1000000)(hR:RowsG gWn q W (.slice a l.length cap) l)
  (hf:∀y∈l,∀(W':World) (cs:List Value),Bl W W'->Shp.lies gWn q W' y cs->eg fn (#[.agg cs.toArray]++caps) W' fun e w'=>e= .returned (.bool (pB y))/\Bl W' w'):
  eg 156 #[.slice a l.length cap,.func (.func fn) #[] caps] W fun e w'=>e= .returned (.bool (l.any pB))/\Bl W w':=by
 have H1:=aB (zindexWhen caps hen hlen hR hf);generalize l.any pB=R at *;generalize l.length=m at *;clear hR hf hlen hen;go_enter func156,ntmps156;go_wp2_with fail;refine H1.o.mono ?_;rintro e w1 ⟨⟨z,rfl,hz⟩,hb1⟩;have HZ:=aB hz;clear hz;go_wp2;go_ret;exact⟨by rw[<-HZ.o];rfl,hb1⟩
theorem zeachWhen1_any{W:World}{cs:List Value}(hcl:cs.length=13){v:Bool}{g bx:Nat}(heng:∀(args:Array Value) (w:World),(callFunc g args).run prog w= .ok (.enter g args) w)(hx:W.cell? ⟨bx,0,none⟩=some (.func (.func g) #[] #[]))
  (hg:∀W',Bl W W'->eg g #[.agg cs.toArray] W' fun e w'=>e= .returned (.bool v)/\Bl W' w'):
  eg 157 #[.agg cs.toArray,.pointer (some ⟨bx,0,none⟩)] W fun e w'=>e= .returned (.bool (!v))/\Bl W w':=by
 have HG:=aB hg;have HI2:=aB (show(prog.info? 87).map (·.size)=some cs.toArray.size from by rw[gG,hcl];exact whenInfo);clear hg hcl;go_enter func157,ntmps157;go_wp2_with (refine wpList_boxO rfl 87 (.tmp 0) rfl cs rfl ?_)
 intro w0 hb0 hX0;have HB0:=aB hb0;have HX0:=aB hX0;have hx0:=hb0.cell hx;clear hb0 hX0;go_wp2_with (refine wpList_load_row rfl 87 (.tmp 2) rfl W.heap.size rfl 87 _ (0,0) _ HX0.o underlying87 rfl HI2.o ?_)
 refine(HG.o _ HB0.o).mono ?_;rintro e w1 ⟨rfl,hb1⟩;go_wp2;go_ret;exact⟨rfl,HB0.o.call hb1⟩
theorem enters_zeachWhen1(args:Array Value)(w:World):(callFunc 157 args).run prog w= .ok (.enter 157 args) w:=by
 simp[go_sem]
theorem zeachWhen_any{W:World}{v:Value}{l:List Wn}{pB:Wn->Bool}{q:Nat->Prop}{g:FuncId}(heng:∀(args:Array Value) (w:World),(callFunc g args).run prog w= .ok (.enter g args) w)(hlen:l.length<=1000000)(hR:RowsG gWn q W v l)(least most:Int)
  (hg:∀y∈l,∀(W':World) (cs:List Value),Bl W W'->Shp.lies gWn q W' y cs->eg g #[.agg cs.toArray] W' fun e w'=>e= .returned (.bool (pB y))/\Bl W' w'):
  eg 109 #[v,.int .i64 least,.int .i64 most,.func (.func g) #[] #[]] W fun e w'=>e= .returned (.bool (decide (least<=(l.length:Int))&&decide ((l.length:Int)<=most)&&l.all pB))/\Bl W w':=by
 obtain⟨a,cap,rfl,-⟩:=hR.shape;have HB0:=aB ((Bl.refl W).alloc (.cells #[.func (.func g) #[] #[]] 165));have hb0:=cK (aN W (.cells #[.func (.func g) #[] #[]] 165));have H1:=aB (zholdsWhen (W:=W.alloc (.cells #[.func (.func g) #[] #[]] 165)) #[.pointer (some ⟨W.heap.size,0,none⟩)] enters_zeachWhen1 hlen (hR.bl HB0.o) (pB:=fun y=> !pB y)
  fun y hy W' cs hb hr=>zeachWhen1_any (Shp.len gWn hr) heng (hb.cell hb0) fun W2 hb2=>hg y hy W2 _ ((HB0.o.call hb).call hb2) (Shp.keep gWn (r:=q) hb2.size (fun _ _ h=>h) (fun b _ hl=>hb2.block b hl) hr))
 by_cases hm0:least<=(l.length:Int)
 case neg=>
  rw[decide_eq_false hm0,pK,pK];generalize l.length=m at *;clear H1 hR hg hlen hb0;go_enter func109,ntmps109;go_wp2;go_ret;exact⟨rfl,HB0.o⟩
 by_cases hm:(l.length:Int)<=most
 case neg=>
  rw[decide_eq_true hm0,decide_eq_false hm,Bool.and_false,pK];generalize l.length=m at *;clear H1 hR hg hlen hb0;go_enter func109,ntmps109;go_wp2;go_ret;exact⟨rfl,HB0.o⟩
 rw[decide_eq_true hm,decide_eq_true hm0,rC,rC,<-d9b];generalize (l.any fun y=> !pB y)=R at *;generalize l.length=m at *;clear hR hg hlen hb0;go_enter func109,ntmps109;go_wp2_with fail;refine H1.o.mono ?_;rintro e w1 ⟨rfl,hb1⟩;go_wp2;go_ret;exact⟨rfl,HB0.o.call hb1⟩
end
end Go.Proofs.YtohlomdapelgeaaGreatDoor
