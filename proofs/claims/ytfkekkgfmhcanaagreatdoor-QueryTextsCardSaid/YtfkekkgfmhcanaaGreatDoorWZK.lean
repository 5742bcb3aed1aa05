/- Texts beside the shared ones. -/
import Derived.Test.YtfkekkgfmhcanaaGreatDoorTS
import Derived.Test.YtfkekkgfmhcanaaGreatDoorTA
import Derived.Test.YtfkekkgfmhcanaaGreatDoorTB
import Derived.Test.YtfkekkgfmhcanaaGreatDoorTC
import Derived.Test.YtfkekkgfmhcanaaGreatDoorTD
import Derived.Test.YtfkekkgfmhcanaaGreatDoorTE
import Derived.Test.YtfkekkgfmhcanaaGreatDoorTF
import Derived.Test.YtfkekkgfmhcanaaGreatDoorTG
import Derived.Test.YtfkekkgfmhcanaaGreatDoorTH
import Derived.Test.YtfkekkgfmhcanaaGreatDoorTI
import Derived.Test.YtfkekkgfmhcanaaGreatDoorTJ
import Derived.Test.YtfkekkgfmhcanaaGreatDoorWZJ
namespace Go.Proofs.YtfkekkgfmhcanaaGreatDoor
open Go.RowKit
open _root_.Go.Lib renaming hid->aB
open _root_.Nat renaming le_refl->aH
set_option maxRecDepth 100000
set_option maxHeartbeats 4000000
section
theorem qsameItem_any{x y:It}(hx:fC x.x<=1000000)(W:World)(s s2:Value)(h1:gU W s x.x.args)(h2:gU W s2 y.x.args):Calls Tryz.prog 41 #[.agg (fIt.cells x s).toArray,.agg (fIt.cells y s2).toArray] W fun e w'=>e= .returned (.bool (sameIt x y))/\Bl W w':=by
 have HS:=aB (fun(B:World) (hb:Bl W B)=>b7d _ x.x y.x (aH _) hx B _ _ ⟨_,rfl,h1.bl hb⟩ ⟨_,rfl,h2.bl hb⟩);obtain⟨asl,cs,rfl,-⟩:=h1.shape;obtain⟨asl2,cs2,rfl,-⟩:=h2.shape;obtain⟨st,tt,⟨yk,⟨y1,y2,y3⟩,yt,yn,yo,ya⟩,al⟩:=x;obtain⟨st2,tt2,⟨zk,⟨z1,z2,z3⟩,zt,zn,zo,za⟩,al2⟩:=y;clear h1 h2 hx;simp only[sameIt];show Calls Tryz.prog 41 #[.agg #[.bool st,S tt,.int .i64 yk,.int .i64 y1,.int .i64 y2,S y3,S yt,S yn,.int .i64 yo,.slice asl ya.length cs,S al],.agg #[.bool st2,S tt2,.int .i64 zk,.int .i64 z1,.int .i64 z2,S z3,S zt,S zn,.int .i64 zo,.slice asl2 za.length cs2,S al2]] W _;generalize hR:(st==st2&&tt==tt2&&al==al2&&kR (.mk yk (y1,y2,y3) yt yn yo ya) (.mk zk (z1,z2,z3) zt zn zo za))=R;have HRR:=aB hR;clear hR;by_cases e1:st=st2
 case neg=>
  have HE:=aB (show R=false from by rw[<-HRR.o];simp[e1]);have hb:(st==st2)=false:=(by simpa using e1);clear HS e1;go_enter Tryz.func41,Tryz.ntmps41;go_wp2;go_ret;exact⟨by rw[HE.o];rfl,((Bl.refl W).alloc _).alloc _⟩
 subst e1;by_cases e2:tt=tt2
 case neg=>
  have HE:=aB (show R=false from by rw[<-HRR.o];simp[e2]);have hb:(tt==tt2)=false:=(by simpa using e2);clear HS e2;go_enter Tryz.func41,Tryz.ntmps41;go_wp2;go_ret;exact⟨by rw[HE.o];rfl,((Bl.refl W).alloc _).alloc _⟩
 subst e2;by_cases e3:al=al2
 case neg=>
  have HE:=aB (show R=false from by rw[<-HRR.o];simp[e3]);have hb:(al==al2)=false:=(by simpa using e3);clear HS e3;go_enter Tryz.func41,Tryz.ntmps41;go_wp2;go_ret;exact⟨by rw[HE.o];rfl,((Bl.refl W).alloc _).alloc _⟩
 subst e3;have HE:=aB (show kR (.mk yk (y1,y2,y3) yt yn yo ya) (.mk zk (z1,z2,z3) zt zn zo za)=R from by rw[<-HRR.o];simp);clear HRR;go_enter Tryz.func41,Tryz.ntmps41;go_wp2_with fail;refine(HS.o _ (((Bl.refl W).alloc _).alloc _)).mono ?_;rintro e w1 ⟨rfl,hb1⟩;go_wp2;go_ret;exact⟨by rw[<-HE.o];rfl,(((Bl.refl W).alloc _).alloc _).call hb1⟩
theorem qSame1_any{x y:Jo}(hx:fC x.on<=1000000)(W:World)(s s2:Value)(h1:gU W s x.on.args)(h2:gU W s2 y.on.args):Calls Tryz.prog 45 #[.agg (fJo.cells x s).toArray,.agg (fJo.cells y s2).toArray] W fun e w'=>e= .returned (.bool (sameJo x y))/\Bl W w':=by
 have HS:=aB (fun(B:World) (hb:Bl W B)=>b7d _ x.on y.on (aH _) hx B _ _ ⟨_,rfl,h1.bl hb⟩ ⟨_,rfl,h2.bl hb⟩);obtain⟨asl,cs,rfl,-⟩:=h1.shape;obtain⟨asl2,cs2,rfl,-⟩:=h2.shape;obtain⟨⟨jt,jal⟩,⟨yk,⟨y1,y2,y3⟩,yt,yn,yo,ya⟩⟩:=x;obtain⟨⟨jt2,jal2⟩,⟨zk,⟨z1,z2,z3⟩,zt,zn,zo,za⟩⟩:=y;clear h1 h2 hx;simp only[sameJo,sameSo];show Calls Tryz.prog 45 #[.agg #[S jt,S jal,.int .i64 yk,.int .i64 y1,.int .i64 y2,S y3,S yt,S yn,.int .i64 yo,.slice asl ya.length cs],.agg #[S jt2,S jal2,.int .i64 zk,.int .i64 z1,.int .i64 z2,S z3,S zt,S zn,.int .i64 zo,.slice asl2 za.length cs2]] W _;generalize hR:(jt==jt2&&jal==jal2&&kR (.mk yk (y1,y2,y3) yt yn yo ya) (.mk zk (z1,z2,z3) zt zn zo za))=R;have HRR:=aB hR;clear hR;by_cases e1:jt=jt2
 case neg=>
  have HE:=aB (show R=false from by rw[<-HRR.o];simp[e1]);have hb:(jt==jt2)=false:=(by simpa using e1);clear HS e1;go_enter Tryz.func45,Tryz.ntmps45;go_wp2;go_ret;exact⟨by rw[HE.o];rfl,((Bl.refl W).alloc _).alloc _⟩
 subst e1;by_cases e2:jal=jal2
 case neg=>
  have HE:=aB (show R=false from by rw[<-HRR.o];simp[e2]);have hb:(jal==jal2)=false:=(by simpa using e2);clear HS e2;go_enter Tryz.func45,Tryz.ntmps45;go_wp2;go_ret;exact⟨by rw[HE.o];rfl,((Bl.refl W).alloc _).alloc _⟩
 subst e2;have HE:=aB (show kR (.mk yk (y1,y2,y3) yt yn yo ya) (.mk zk (z1,z2,z3) zt zn zo za)=R from by rw[<-HRR.o];simp);clear HRR;go_enter Tryz.func45,Tryz.ntmps45;go_wp2_with fail;refine(HS.o _ (((Bl.refl W).alloc _).alloc _)).mono ?_;rintro e w1 ⟨rfl,hb1⟩;go_wp2;go_ret;exact⟨by rw[<-HE.o];rfl,(((Bl.refl W).alloc _).alloc _).call hb1⟩
theorem qSame2_any{x y:Od}(hx:fC x.x<=1000000)(W:World)(s s2:Value)(h1:gU W s x.x.args)(h2:gU W s2 y.x.args):Calls Tryz.prog 47 #[.agg (fOd.cells x s).toArray,.agg (fOd.cells y s2).toArray] W fun e w'=>e= .returned (.bool (sameOd x y))/\Bl W w':=by
 have HS:=aB (fun(B:World) (hb:Bl W B)=>b7d _ x.x y.x (aH _) hx B _ _ ⟨_,rfl,h1.bl hb⟩ ⟨_,rfl,h2.bl hb⟩);obtain⟨asl,cs,rfl,-⟩:=h1.shape;obtain⟨asl2,cs2,rfl,-⟩:=h2.shape;obtain⟨⟨yk,⟨y1,y2,y3⟩,yt,yn,yo,ya⟩,dn⟩:=x;obtain⟨⟨zk,⟨z1,z2,z3⟩,zt,zn,zo,za⟩,dn2⟩:=y;clear h1 h2 hx;simp only[sameOd];show Calls Tryz.prog 47 #[.agg #[.int .i64 yk,.int .i64 y1,.int .i64 y2,S y3,S yt,S yn,.int .i64 yo,.slice asl ya.length cs,.bool dn],.agg #[.int .i64 zk,.int .i64 z1,.int .i64 z2,S z3,S zt,S zn,.int .i64 zo,.slice asl2 za.length cs2,.bool dn2]] W _;generalize hR:(dn==dn2&&kR (.mk yk (y1,y2,y3) yt yn yo ya) (.mk zk (z1,z2,z3) zt zn zo za))=R;have HRR:=aB hR;clear hR;by_cases e1:dn=dn2
 case neg=>
  have HE:=aB (show R=false from by rw[<-HRR.o];simp[e1]);have hb:(dn==dn2)=false:=(by simpa using e1);clear HS e1;go_enter Tryz.func47,Tryz.ntmps47;go_wp2;go_ret;exact⟨by rw[HE.o];rfl,((Bl.refl W).alloc _).alloc _⟩
 subst e1;have HE:=aB (show kR (.mk yk (y1,y2,y3) yt yn yo ya) (.mk zk (z1,z2,z3) zt zn zo za)=R from by rw[<-HRR.o];simp);clear HRR;go_enter Tryz.func47,Tryz.ntmps47;go_wp2_with fail;refine(HS.o _ (((Bl.refl W).alloc _).alloc _)).mono ?_;rintro e w1 ⟨rfl,hb1⟩;go_wp2;go_ret;exact⟨by rw[<-HE.o];rfl,(((Bl.refl W).alloc _).alloc _).call hb1⟩
end
end Go.Proofs.YtfkekkgfmhcanaaGreatDoor
