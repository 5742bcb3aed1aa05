/- Texts beside the shared ones. -/
import Derived.Test.YtfkekkgfmhcanaaGreatDoorTS
import Derived.Test.YtfkekkgfmhcanaaGreatDoorTA
import Derived.Test.YtfkekkgfmhcanaaGreatDoorTB
import Derived.Test.YtfkekkgfmhcanaaGreatDoorTC
import Derived.Test.YtfkekkgfmhcanaaGreatDoorTD
import Derived.Test.YtfkekkgfmhcanaaGreatDoorTE
import Derived.Test.YtfkekkgfmhcanaaGreatDoorTF
import Derived.Test.YtfkekkgfmhcanaaGreatDoorTG
import Derived.Test.YtfkekkgfmhcanaaGreatDoorTH
import Derived.Test.YtfkekkgfmhcanaaGreatDoorTI
import Derived.Test.YtfkekkgfmhcanaaGreatDoorTJ
import Derived.Test.YtfkekkgfmhcanaaGreatDoorWZI
namespace Go.Proofs.YtfkekkgfmhcanaaGreatDoor
open Go.RowKit
open _root_.And renaming intro->bT
open _root_.Bool renaming false_and->pK,true_and->rC
open _root_.Go.Lib renaming hid->aB
open _root_.List renaming drop_eq_getElem_cons->aZ,drop_length->dO,getElem_mem->dS
open _root_.Nat renaming zero_le->dL
set_option maxRecDepth 100000
set_option maxHeartbeats 4000000
section
theorem samesBy_ne{α:Type}{f:α->α->Bool}:∀{l m:List α},l.length≠m.length->samesBy f l m=false
 |[],[],h=>absurd rfl h
 |[],_::_,_=>rfl
 |_::_,[],_=>rfl
 |x::l,y::m,h=>by simp only[samesBy,samesBy_ne (l:=l) (m:=m) (fun e=>h (by simp[e])),Bool.and_false]
theorem samesBy_drop{α:Type}{f:α->α->Bool}{l m:List α}{j:Nat}(h:j<l.length)(h2:j<m.length):samesBy f (l.drop j) (m.drop j)=(f l[j] m[j]&&samesBy f (l.drop (j+1)) (m.drop (j+1))):=by
 rw[aZ h,aZ h2];rfl
theorem equalI_any{W:World}{a a2:Option Addr}{cap cap2:Nat}{l m:List It}{same:It->It->Bool}{q r:Nat->Prop}{fn:FuncId}(hen:∀(args:Array Value) (w:World),(callFunc fn args).run Tryz.prog w= .ok (.enter fn args) w)(hlen:l.length<=1000000)(hR:d2p fIt q W (.slice a l.length cap) l)(hR2:d2p fIt r W (.slice a2 m.length cap2) m)
  (hf:∀y∈l,∀(z:It) (W':World) (s s2:Value),Bl W W'->bG q W' s (Form.ex fIt y).args->bG r W' s2 (Form.ex fIt z).args->Calls Tryz.prog fn #[.agg (fIt.cells y s).toArray,.agg (fIt.cells z s2).toArray] W' fun e w'=>e= .returned (.bool (same y z))/\Bl W' w'):
  Calls Tryz.prog 40 #[.slice a l.length cap,.slice a2 m.length cap2,.func (.func fn) #[] #[]] W fun e w'=>e= .returned (.bool (samesBy same l m))/\Bl W w':=by
 by_cases hl:l.length=m.length
 case neg=>
  rw[samesBy_ne hl];have hl':¬(l.length:Int)=(m.length:Int):=(by omega);have hb:((l.length:Int)==(m.length:Int))=false:=(by simpa using hl');have hb':((l.length:Int) != (m.length:Int))=true:=(by simpa using hl');clear hl hl' hR hR2 hf hlen;go_enter Tryz.func40,Tryz.ntmps40;go_wp2;go_ret;exact⟨rfl,Bl.refl W⟩
 obtain⟨a',cap',e,hc⟩:=hR.shape;obtain⟨rfl,rfl⟩:a=a'/\cap=cap':=(by simpa using e);obtain⟨a3,cap3,e3,hc2⟩:=hR2.shape;obtain⟨rfl,rfl⟩:a2=a3/\cap2=cap3:=(by simpa using e3);have HC:=aB hc;have HC2:=aB hc2;have HF:=aB hf;have HLE:=aB hl;rw[<-hl];obtain⟨R,HRR⟩:∃R,Hid (samesBy same l m=R):=⟨_,rfl⟩
 rw[HRR.o];clear hR hR2 hc hc2 hf e e3 hl;go_enter Tryz.func40,Tryz.ntmps40;go_wp2_with fail;go_loopw [17] (fun i wr=>∃j:Nat,j<=l.length/\i= .int .i64 (j:Int)/\Hid (R=samesBy same (l.drop j) (m.drop j))/\Hid (Bl W wr)) (fun i _=>l.length-(intOf i).toNat)
 case atStart=>exact⟨0,dL _,rfl,HRR.o.symm,Bl.refl W⟩
 case round=>
  obtain⟨j,hj,rfl,HD,HB⟩:=hrel;by_cases hlt:j<l.length
  ·have hlt2:j<m.length:=by have:=HLE.o;omega
   obtain⟨b,off,s,rfl,-,hbl,hcs,hr⟩:=HC.o j hlt;obtain⟨b2,off2,s2,rfl,-,hbl2,hcs2,hr2⟩:=HC2.o j hlt2;have HDj:=aB (HD.o.trans (samesBy_drop hlt hlt2));have HM:=aB (dS hlt);have HR:=aB (bT (hr.bl HB.o) (hr2.bl HB.o))
   replace hcs:=hcs.keep (HB.o.block b hbl)
   replace hcs2:=hcs2.keep (HB.o.block b2 hbl2)
   have hz:=HB.o.size;have hbw:b2<wr.heap.size:=(by omega);have hlt':(j:Int)<(l.length:Int):=(by omega);obtain⟨asl,cs,rfl⟩:=hr.shape;obtain⟨asl2,cs2,rfl⟩:=hr2.shape;clear hr hr2 HD;generalize l[j]=y at *;generalize m[j]=z at *;obtain⟨st,tt,⟨yk,⟨y1,y2,y3⟩,yt,yn,yo,ya⟩,al⟩:=y;obtain⟨st2,tt2,⟨zk,⟨z1,z2,z3⟩,zt,zn,zo,za⟩,al2⟩:=z
   replace hcs:d2k wr b (off+j * 11) [.bool st,S tt,.int .i64 yk,.int .i64 y1,.int .i64 y2,S y3,S yt,S yn,.int .i64 yo,.slice asl ya.length cs,S al]:=hcs
   replace hcs2:d2k wr b2 (off2+j * 11) [.bool st2,S tt2,.int .i64 zk,.int .i64 z1,.int .i64 z2,S z3,S zt,S zn,.int .i64 zo,.slice asl2 za.length cs2,S al2]:=hcs2
   have e0:=d2k.cell0 hcs rfl;have e1:=hcs 1 _ rfl;have e2:=hcs 2 _ rfl;have e3:=hcs 3 _ rfl;have e4:=hcs 4 _ rfl;have e5:=hcs 5 _ rfl;have e6:=hcs 6 _ rfl;have e7:=hcs 7 _ rfl;have e8:=hcs 8 _ rfl;have e9:=hcs 9 _ rfl;have e10:=hcs 10 _ rfl;have i0:=d2k.cell0 hcs2 rfl;have i1:=hcs2 1 _ rfl;have i2:=hcs2 2 _ rfl;have i3:=hcs2 3 _ rfl;have i4:=hcs2 4 _ rfl;have i5:=hcs2 5 _ rfl;have i6:=hcs2 6 _ rfl;have i7:=hcs2 7 _ rfl;have i8:=hcs2 8 _ rfl;have i9:=hcs2 9 _ rfl;have i10:=hcs2 10 _ rfl;clear hcs hcs2;go_wp2_with fail;refine(HF.o (⟨st,tt,(.mk yk (y1,y2,y3) yt yn yo ya),al⟩:It) HM.o (⟨st2,tt2,(.mk zk (z1,z2,z3) zt zn zo za),al2⟩:It) _ (.slice asl ya.length cs) (.slice asl2 za.length cs2) (HB.o.call (((Bl.refl _).alloc _).alloc _)) (HR.o.1.bl (((Bl.refl _).alloc _).alloc _)) (HR.o.2.bl (((Bl.refl _).alloc _).alloc _))).mono ?_;rintro e w1 ⟨rfl,hb1⟩;have HB1:=aB ((HB.o.call (((Bl.refl _).alloc _).alloc _)).call hb1);clear hb1 e0 e1 e2 e3 e4 e5 e6 e7 e8 e9 e10 i0 i1 i2 i3 i4 i5 i6 i7 i8 i9 i10;cases hs:same (⟨st,tt,(.mk yk (y1,y2,y3) yt yn yo ya),al⟩:It) (⟨st2,tt2,(.mk zk (z1,z2,z3) zt zn zo za),al2⟩:It)
   ·have HN:=aB (show R=false from by rw[HDj.o,hs,pK]);clear hs;go_wp2;go_ret;exact⟨by rw[HN.o];rfl,HB1.o⟩
   ·have HN:=aB (show R=samesBy same (l.drop (j+1)) (m.drop (j+1)) from by rw[HDj.o,hs,rC]);clear hs;go_wp2;go_roundw
    case rel=>exact⟨j+1,by omega,by go_num,HN.o,HB1.o⟩
    case measure=>simp[intOf];omega
  ·obtain rfl:j=l.length:=by omega
   have HN:=aB (show R=true from by rw[HD.o,dO,HLE.o,dO];rfl);go_wp2;go_ret;exact⟨by rw[HN.o];rfl,HB.o⟩
theorem equalJ_any{W:World}{a a2:Option Addr}{cap cap2:Nat}{l m:List Jo}{same:Jo->Jo->Bool}{q r:Nat->Prop}{fn:FuncId}(hen:∀(args:Array Value) (w:World),(callFunc fn args).run Tryz.prog w= .ok (.enter fn args) w)(hlen:l.length<=1000000)(hR:d2p fJo q W (.slice a l.length cap) l)(hR2:d2p fJo r W (.slice a2 m.length cap2) m)
  (hf:∀y∈l,∀(z:Jo) (W':World) (s s2:Value),Bl W W'->bG q W' s (Form.ex fJo y).args->bG r W' s2 (Form.ex fJo z).args->Calls Tryz.prog fn #[.agg (fJo.cells y s).toArray,.agg (fJo.cells z s2).toArray] W' fun e w'=>e= .returned (.bool (same y z))/\Bl W' w'):
  Calls Tryz.prog 44 #[.slice a l.length cap,.slice a2 m.length cap2,.func (.func fn) #[] #[]] W fun e w'=>e= .returned (.bool (samesBy same l m))/\Bl W w':=by
 by_cases hl:l.length=m.length
 case neg=>
  rw[samesBy_ne hl];have hl':¬(l.length:Int)=(m.length:Int):=(by omega);have hb:((l.length:Int)==(m.length:Int))=false:=(by simpa using hl');have hb':((l.length:Int) != (m.length:Int))=true:=(by simpa using hl');clear hl hl' hR hR2 hf hlen;go_enter Tryz.func44,Tryz.ntmps44;go_wp2;go_ret;exact⟨rfl,Bl.refl W⟩
 obtain⟨a',cap',e,hc⟩:=hR.shape;obtain⟨rfl,rfl⟩:a=a'/\cap=cap':=(by simpa using e);obtain⟨a3,cap3,e3,hc2⟩:=hR2.shape;obtain⟨rfl,rfl⟩:a2=a3/\cap2=cap3:=(by simpa using e3);have HC:=aB hc;have HC2:=aB hc2;have HF:=aB hf;have HLE:=aB hl;rw[<-hl];obtain⟨R,HRR⟩:∃R,Hid (samesBy same l m=R):=⟨_,rfl⟩
 rw[HRR.o];clear hR hR2 hc hc2 hf e e3 hl;go_enter Tryz.func44,Tryz.ntmps44;go_wp2_with fail;go_loopw [17] (fun i wr=>∃j:Nat,j<=l.length/\i= .int .i64 (j:Int)/\Hid (R=samesBy same (l.drop j) (m.drop j))/\Hid (Bl W wr)) (fun i _=>l.length-(intOf i).toNat)
 case atStart=>exact⟨0,dL _,rfl,HRR.o.symm,Bl.refl W⟩
 case round=>
  obtain⟨j,hj,rfl,HD,HB⟩:=hrel;by_cases hlt:j<l.length
  ·have hlt2:j<m.length:=by have:=HLE.o;omega
   obtain⟨b,off,s,rfl,-,hbl,hcs,hr⟩:=HC.o j hlt;obtain⟨b2,off2,s2,rfl,-,hbl2,hcs2,hr2⟩:=HC2.o j hlt2;have HDj:=aB (HD.o.trans (samesBy_drop hlt hlt2));have HM:=aB (dS hlt);have HR:=aB (bT (hr.bl HB.o) (hr2.bl HB.o))
   replace hcs:=hcs.keep (HB.o.block b hbl)
   replace hcs2:=hcs2.keep (HB.o.block b2 hbl2)
   have hz:=HB.o.size;have hbw:b2<wr.heap.size:=(by omega);have hlt':(j:Int)<(l.length:Int):=(by omega);obtain⟨asl,cs,rfl⟩:=hr.shape;obtain⟨asl2,cs2,rfl⟩:=hr2.shape;clear hr hr2 HD;generalize l[j]=y at *;generalize m[j]=z at *;obtain⟨⟨jt,jal⟩,⟨yk,⟨y1,y2,y3⟩,yt,yn,yo,ya⟩⟩:=y;obtain⟨⟨jt2,jal2⟩,⟨zk,⟨z1,z2,z3⟩,zt,zn,zo,za⟩⟩:=z
   replace hcs:d2k wr b (off+j * 10) [S jt,S jal,.int .i64 yk,.int .i64 y1,.int .i64 y2,S y3,S yt,S yn,.int .i64 yo,.slice asl ya.length cs]:=hcs
   replace hcs2:d2k wr b2 (off2+j * 10) [S jt2,S jal2,.int .i64 zk,.int .i64 z1,.int .i64 z2,S z3,S zt,S zn,.int .i64 zo,.slice asl2 za.length cs2]:=hcs2
   have e0:=d2k.cell0 hcs rfl;have e1:=hcs 1 _ rfl;have e2:=hcs 2 _ rfl;have e3:=hcs 3 _ rfl;have e4:=hcs 4 _ rfl;have e5:=hcs 5 _ rfl;have e6:=hcs 6 _ rfl;have e7:=hcs 7 _ rfl;have e8:=hcs 8 _ rfl;have e9:=hcs 9 _ rfl;have i0:=d2k.cell0 hcs2 rfl;have i1:=hcs2 1 _ rfl;have i2:=hcs2 2 _ rfl;have i3:=hcs2 3 _ rfl;have i4:=hcs2 4 _ rfl;have i5:=hcs2 5 _ rfl;have i6:=hcs2 6 _ rfl;have i7:=hcs2 7 _ rfl;have i8:=hcs2 8 _ rfl;have i9:=hcs2 9 _ rfl;clear hcs hcs2;go_wp2_with fail;refine(HF.o (⟨⟨jt,jal⟩,(.mk yk (y1,y2,y3) yt yn yo ya)⟩:Jo) HM.o (⟨⟨jt2,jal2⟩,(.mk zk (z1,z2,z3) zt zn zo za)⟩:Jo) _ (.slice asl ya.length cs) (.slice asl2 za.length cs2) (HB.o.call (((Bl.refl _).alloc _).alloc _)) (HR.o.1.bl (((Bl.refl _).alloc _).alloc _)) (HR.o.2.bl (((Bl.refl _).alloc _).alloc _))).mono ?_;rintro e w1 ⟨rfl,hb1⟩;have HB1:=aB ((HB.o.call (((Bl.refl _).alloc _).alloc _)).call hb1);clear hb1 e0 e1 e2 e3 e4 e5 e6 e7 e8 e9 i0 i1 i2 i3 i4 i5 i6 i7 i8 i9;cases hs:same (⟨⟨jt,jal⟩,(.mk yk (y1,y2,y3) yt yn yo ya)⟩:Jo) (⟨⟨jt2,jal2⟩,(.mk zk (z1,z2,z3) zt zn zo za)⟩:Jo)
   ·have HN:=aB (show R=false from by rw[HDj.o,hs,pK]);clear hs;go_wp2;go_ret;exact⟨by rw[HN.o];rfl,HB1.o⟩
   ·have HN:=aB (show R=samesBy same (l.drop (j+1)) (m.drop (j+1)) from by rw[HDj.o,hs,rC]);clear hs;go_wp2;go_roundw
    case rel=>exact⟨j+1,by omega,by go_num,HN.o,HB1.o⟩
    case measure=>simp[intOf];omega
  ·obtain rfl:j=l.length:=by omega
   have HN:=aB (show R=true from by rw[HD.o,dO,HLE.o,dO];rfl);go_wp2;go_ret;exact⟨by rw[HN.o];rfl,HB.o⟩
theorem equalO_any{W:World}{a a2:Option Addr}{cap cap2:Nat}{l m:List Od}{same:Od->Od->Bool}{q r:Nat->Prop}{fn:FuncId}(hen:∀(args:Array Value) (w:World),(callFunc fn args).run Tryz.prog w= .ok (.enter fn args) w)(hlen:l.length<=1000000)(hR:d2p fOd q W (.slice a l.length cap) l)(hR2:d2p fOd r W (.slice a2 m.length cap2) m)
  (hf:∀y∈l,∀(z:Od) (W':World) (s s2:Value),Bl W W'->bG q W' s (Form.ex fOd y).args->bG r W' s2 (Form.ex fOd z).args->Calls Tryz.prog fn #[.agg (fOd.cells y s).toArray,.agg (fOd.cells z s2).toArray] W' fun e w'=>e= .returned (.bool (same y z))/\Bl W' w'):
  Calls Tryz.prog 46 #[.slice a l.length cap,.slice a2 m.length cap2,.func (.func fn) #[] #[]] W fun e w'=>e= .returned (.bool (samesBy same l m))/\Bl W w':=by
 by_cases hl:l.length=m.length
 case neg=>
  rw[samesBy_ne hl];have hl':¬(l.length:Int)=(m.length:Int):=(by omega);have hb:((l.length:Int)==(m.length:Int))=false:=(by simpa using hl');have hb':((l.length:Int) != (m.length:Int))=true:=(by simpa using hl');clear hl hl' hR hR2 hf hlen;go_enter Tryz.func46,Tryz.ntmps46;go_wp2;go_ret;exact⟨rfl,Bl.refl W⟩
 obtain⟨a',cap',e,hc⟩:=hR.shape;obtain⟨rfl,rfl⟩:a=a'/\cap=cap':=(by simpa using e);obtain⟨a3,cap3,e3,hc2⟩:=hR2.shape;obtain⟨rfl,rfl⟩:a2=a3/\cap2=cap3:=(by simpa using e3);have HC:=aB hc;have HC2:=aB hc2;have HF:=aB hf;have HLE:=aB hl;rw[<-hl];obtain⟨R,HRR⟩:∃R,Hid (samesBy same l m=R):=⟨_,rfl⟩
 rw[HRR.o];clear hR hR2 hc hc2 hf e e3 hl;go_enter Tryz.func46,Tryz.ntmps46;go_wp2_with fail;go_loopw [17] (fun i wr=>∃j:Nat,j<=l.length/\i= .int .i64 (j:Int)/\Hid (R=samesBy same (l.drop j) (m.drop j))/\Hid (Bl W wr)) (fun i _=>l.length-(intOf i).toNat)
 case atStart=>exact⟨0,dL _,rfl,HRR.o.symm,Bl.refl W⟩
 case round=>
  obtain⟨j,hj,rfl,HD,HB⟩:=hrel;by_cases hlt:j<l.length
  ·have hlt2:j<m.length:=by have:=HLE.o;omega
   obtain⟨b,off,s,rfl,-,hbl,hcs,hr⟩:=HC.o j hlt;obtain⟨b2,off2,s2,rfl,-,hbl2,hcs2,hr2⟩:=HC2.o j hlt2;have HDj:=aB (HD.o.trans (samesBy_drop hlt hlt2));have HM:=aB (dS hlt);have HR:=aB (bT (hr.bl HB.o) (hr2.bl HB.o))
   replace hcs:=hcs.keep (HB.o.block b hbl)
   replace hcs2:=hcs2.keep (HB.o.block b2 hbl2)
   have hz:=HB.o.size;have hbw:b2<wr.heap.size:=(by omega);have hlt':(j:Int)<(l.length:Int):=(by omega);obtain⟨asl,cs,rfl⟩:=hr.shape;obtain⟨asl2,cs2,rfl⟩:=hr2.shape;clear hr hr2 HD;generalize l[j]=y at *;generalize m[j]=z at *;obtain⟨⟨yk,⟨y1,y2,y3⟩,yt,yn,yo,ya⟩,dn⟩:=y;obtain⟨⟨zk,⟨z1,z2,z3⟩,zt,zn,zo,za⟩,dn2⟩:=z
   replace hcs:d2k wr b (off+j * 9) [.int .i64 yk,.int .i64 y1,.int .i64 y2,S y3,S yt,S yn,.int .i64 yo,.slice asl ya.length cs,.bool dn]:=hcs
   replace hcs2:d2k wr b2 (off2+j * 9) [.int .i64 zk,.int .i64 z1,.int .i64 z2,S z3,S zt,S zn,.int .i64 zo,.slice asl2 za.length cs2,.bool dn2]:=hcs2
   have e0:=d2k.cell0 hcs rfl;have e1:=hcs 1 _ rfl;have e2:=hcs 2 _ rfl;have e3:=hcs 3 _ rfl;have e4:=hcs 4 _ rfl;have e5:=hcs 5 _ rfl;have e6:=hcs 6 _ rfl;have e7:=hcs 7 _ rfl;have e8:=hcs 8 _ rfl;have i0:=d2k.cell0 hcs2 rfl;have i1:=hcs2 1 _ rfl;have i2:=hcs2 2 _ rfl;have i3:=hcs2 3 _ rfl;have i4:=hcs2 4 _ rfl;have i5:=hcs2 5 _ rfl;have i6:=hcs2 6 _ rfl;have i7:=hcs2 7 _ rfl;have i8:=hcs2 8 _ rfl;clear hcs hcs2;go_wp2_with fail;refine(HF.o (⟨(.mk yk (y1,y2,y3) yt yn yo ya),dn⟩:Od) HM.o (⟨(.mk zk (z1,z2,z3) zt zn zo za),dn2⟩:Od) _ (.slice asl ya.length cs) (.slice asl2 za.length cs2) (HB.o.call (((Bl.refl _).alloc _).alloc _)) (HR.o.1.bl (((Bl.refl _).alloc _).alloc _)) (HR.o.2.bl (((Bl.refl _).alloc _).alloc _))).mono ?_;rintro e w1 ⟨rfl,hb1⟩;have HB1:=aB ((HB.o.call (((Bl.refl _).alloc _).alloc _)).call hb1);clear hb1 e0 e1 e2 e3 e4 e5 e6 e7 e8 i0 i1 i2 i3 i4 i5 i6 i7 i8;cases hs:same (⟨(.mk yk (y1,y2,y3) yt yn yo ya),dn⟩:Od) (⟨(.mk zk (z1,z2,z3) zt zn zo za),dn2⟩:Od)
   ·have HN:=aB (show R=false from by rw[HDj.o,hs,pK]);clear hs;go_wp2;go_ret;exact⟨by rw[HN.o];rfl,HB1.o⟩
   ·have HN:=aB (show R=samesBy same (l.drop (j+1)) (m.drop (j+1)) from by rw[HDj.o,hs,rC]);clear hs;go_wp2;go_roundw
    case rel=>exact⟨j+1,by omega,by go_num,HN.o,HB1.o⟩
    case measure=>simp[intOf];omega
  ·obtain rfl:j=l.length:=by omega
   have HN:=aB (show R=true from by rw[HD.o,dO,HLE.o,dO];rfl);go_wp2;go_ret;exact⟨by rw[HN.o];rfl,HB.o⟩
end
end Go.Proofs.YtfkekkgfmhcanaaGreatDoor
