/- Texts beside the shared ones. -/
import Derived.Test.YtkimpcmkminffaaGreatDoorWX0
import Derived.Test.YtkimpcmkminffaaGreatDoorWGA
import Derived.Test.YtkimpcmkminffaaGreatDoorWGB
namespace Go.Proofs.YtkimpcmkminffaaGreatDoor
open Go.RowKit
open _root_.Go.Lib renaming cell_of_heap->aG,hid->aB
set_option maxRecDepth 100000
set_option maxHeartbeats 8000000
section
theorem svFull:(Tryz.prog.info? 36).map (fun i=>(i.zero,i.size,i.bytes))=some (some (.slice none 0 0),1,24):=by kernel_rfl
theorem svInfo:(Tryz.prog.info? 36).map (·.size)=some 1:=by kernel_rfl
theorem twoC20{W:World}{b:Nat}{x0 x1:Value}{t:TypeId}(h:W.heap[b]?=some (.cells #[x0,x1] t (0,0))):W.cell? ⟨b,0,none⟩=some x0/\W.cell? ⟨b,1,none⟩=some x1:=
 ⟨by rw[aG h];rfl,by rw[aG h];rfl⟩
structure OrF(c:Array Value)(px py:Int)(W A:World):Prop where
 x:A.heap[W.heap.size]?=some (.cells c 30 (0,0))
 y:A.heap[W.heap.size+1]?=some (.cells #[.int .i64 px,.int .i64 py] 32 (0,0))
 bl:Bl W A
theorem OrF.call{c:Array Value}{x y:Int}{W A B:World}(h:OrF c x y W A)(hb:Bl A B):OrF c x y W B:=⟨keep_b h.x hb,keep_b h.y hb,h.bl.call hb⟩
theorem OrF.start(c:Array Value)(x y:Int)(W:World):OrF c x y W ((W.alloc (.cells c 30)).alloc (.cells #[.int .i64 x,.int .i64 y] 32)):=
 ⟨by rw[aW _ _ (by simp)];exact aN W _,aV _ _ (by simp),((Bl.refl W).alloc _).alloc _⟩
theorem border_bad(b:Bd)(q:Nat)(x y:Int)(W:World)(v:Value)(ra:Option Addr)(rc:Nat)(z1:Nat)(sb:Bool)(hv:ReadsD W b v)
  (HS1:Hid (∀W',Bl W W'->Calls Tryz.prog 5 #[v,.int .i64 20] W' fun e w'=>e= .returned (.int .i64 (z1:Int))/\Bl W' w')) (HWO:Hid (∀W',Bl W W'->Calls Tryz.prog 7 #[] W' fun e w'=>e= .returned (.bool true)/\Bl W' w'))
  (HSL:Hid (∀(W':World),Bl W W'->Calls Tryz.prog 6 #[.slice ra q rc] W' fun e w'=>e= .returned (.bool sb)/\W'=w'))
  (h:20<z1\/sb=false\/b.k≠5\/x<0\/(q:Int)<=x\/y<0\/(q:Int)<=y):Calls Tryz.prog 3 #[v,.slice ra q rc,.agg #[.int .i64 x,.int .i64 y]] W (Yes W):=by
 by_cases h1:20<z1
 ·clear h;obtain⟨sv,rfl,hL⟩:=hv;obtain⟨a1,cap,rfl,-⟩:=hL.shape;clear hL;obtain⟨k,t,⟨v1,v2,v3⟩,p,o,n,args⟩:=b;simp only[Bd.k,Bd.t,Bd.v,Bd.p,Bd.o,Bd.n,Bd.args] at *;generalize args.length=m at *;have HF0:=aB (OrF.start (cellsB k t v1 v2 v3 p o n (.slice a1 m cap)) x y W);obtain⟨e0,e1,e2,e3,e4,e5,e6,e7,e8⟩:=nine HF0.o.x;have g1:(20:Int)<(z1:Int):=(by omega);clear h1 HSL;go_enter Tryz.func3,Tryz.ntmps3;go_wp2_with fail;refine(HS1.o _ HF0.o.bl).mono ?_;rintro e w1 ⟨rfl,hb1⟩;have HF1:=aB (HF0.o.call hb1);clear hb1 e0 e1 e2 e3 e4 e5 e6 e7 e8;obtain⟨e0,e1,e2,e3,e4,e5,e6,e7,e8⟩:=nine HF1.o.x;obtain⟨f0,f1⟩:=twoC20 HF1.o.y;go_wp2_with fail;refine(HWO.o _ (HF1.o).bl).mono ?_;rintro e w9 ⟨rfl,hb9⟩;go_wp2;go_ret;exact⟨by first |rfl|trivial,(HF1.o).bl.call hb9⟩
 cases sb
 ·clear h;obtain⟨sv,rfl,hL⟩:=hv;obtain⟨a1,cap,rfl,-⟩:=hL.shape;clear hL;obtain⟨k,t,⟨v1,v2,v3⟩,p,o,n,args⟩:=b;simp only[Bd.k,Bd.t,Bd.v,Bd.p,Bd.o,Bd.n,Bd.args] at *;generalize args.length=m at *;have HF0:=aB (OrF.start (cellsB k t v1 v2 v3 p o n (.slice a1 m cap)) x y W);obtain⟨e0,e1,e2,e3,e4,e5,e6,e7,e8⟩:=nine HF0.o.x
  try subst hk
  have g1:¬(20:Int)<(z1:Int):=(by omega);clear h1;go_enter Tryz.func3,Tryz.ntmps3;go_wp2_with fail;refine(HS1.o _ HF0.o.bl).mono ?_;rintro e w1 ⟨rfl,hb1⟩;have HF1:=aB (HF0.o.call hb1);clear hb1 e0 e1 e2 e3 e4 e5 e6 e7 e8;obtain⟨e0,e1,e2,e3,e4,e5,e6,e7,e8⟩:=nine HF1.o.x;obtain⟨f0,f1⟩:=twoC20 HF1.o.y;go_wp2_with fail;refine(HSL.o _ HF1.o.bl).mono ?_;rintro e w2 ⟨rfl,rfl⟩;go_wp2_with fail;refine(HWO.o _ (HF1.o).bl).mono ?_;rintro e w9 ⟨rfl,hb9⟩;go_wp2;go_ret;exact⟨by first |rfl|trivial,(HF1.o).bl.call hb9⟩
 by_cases hk:b.k=5
 ·by_cases hx:x<0
  ·clear h;obtain⟨sv,rfl,hL⟩:=hv;obtain⟨a1,cap,rfl,-⟩:=hL.shape;clear hL;obtain⟨k,t,⟨v1,v2,v3⟩,p,o,n,args⟩:=b;simp only[Bd.k,Bd.t,Bd.v,Bd.p,Bd.o,Bd.n,Bd.args] at *;generalize args.length=m at *;have HF0:=aB (OrF.start (cellsB k t v1 v2 v3 p o n (.slice a1 m cap)) x y W);obtain⟨e0,e1,e2,e3,e4,e5,e6,e7,e8⟩:=nine HF0.o.x
   try subst hk
   have g1:¬(20:Int)<(z1:Int):=(by omega);clear h1;go_enter Tryz.func3,Tryz.ntmps3;go_wp2_with fail;refine(HS1.o _ HF0.o.bl).mono ?_;rintro e w1 ⟨rfl,hb1⟩;have HF1:=aB (HF0.o.call hb1);clear hb1 e0 e1 e2 e3 e4 e5 e6 e7 e8;obtain⟨e0,e1,e2,e3,e4,e5,e6,e7,e8⟩:=nine HF1.o.x;obtain⟨f0,f1⟩:=twoC20 HF1.o.y;go_wp2_with fail;refine(HSL.o _ HF1.o.bl).mono ?_;rintro e w2 ⟨rfl,rfl⟩;go_wp2_with fail;refine(HWO.o _ (HF1.o).bl).mono ?_;rintro e w9 ⟨rfl,hb9⟩;go_wp2;go_ret;exact⟨by first |rfl|trivial,(HF1.o).bl.call hb9⟩
  ·by_cases hx2:(q:Int)<=x
   ·clear h;obtain⟨sv,rfl,hL⟩:=hv;obtain⟨a1,cap,rfl,-⟩:=hL.shape;clear hL;obtain⟨k,t,⟨v1,v2,v3⟩,p,o,n,args⟩:=b;simp only[Bd.k,Bd.t,Bd.v,Bd.p,Bd.o,Bd.n,Bd.args] at *;generalize args.length=m at *;have HF0:=aB (OrF.start (cellsB k t v1 v2 v3 p o n (.slice a1 m cap)) x y W);obtain⟨e0,e1,e2,e3,e4,e5,e6,e7,e8⟩:=nine HF0.o.x
    try subst hk
    have g1:¬(20:Int)<(z1:Int):=(by omega);clear h1;go_enter Tryz.func3,Tryz.ntmps3;go_wp2_with fail;refine(HS1.o _ HF0.o.bl).mono ?_;rintro e w1 ⟨rfl,hb1⟩;have HF1:=aB (HF0.o.call hb1);clear hb1 e0 e1 e2 e3 e4 e5 e6 e7 e8;obtain⟨e0,e1,e2,e3,e4,e5,e6,e7,e8⟩:=nine HF1.o.x;obtain⟨f0,f1⟩:=twoC20 HF1.o.y;go_wp2_with fail;refine(HSL.o _ HF1.o.bl).mono ?_;rintro e w2 ⟨rfl,rfl⟩;go_wp2_with fail;refine(HWO.o _ (HF1.o).bl).mono ?_;rintro e w9 ⟨rfl,hb9⟩;go_wp2;go_ret;exact⟨by first |rfl|trivial,(HF1.o).bl.call hb9⟩
   ·by_cases hy:y<0
    ·clear h;obtain⟨sv,rfl,hL⟩:=hv;obtain⟨a1,cap,rfl,-⟩:=hL.shape;clear hL;obtain⟨k,t,⟨v1,v2,v3⟩,p,o,n,args⟩:=b;simp only[Bd.k,Bd.t,Bd.v,Bd.p,Bd.o,Bd.n,Bd.args] at *;generalize args.length=m at *;have HF0:=aB (OrF.start (cellsB k t v1 v2 v3 p o n (.slice a1 m cap)) x y W);obtain⟨e0,e1,e2,e3,e4,e5,e6,e7,e8⟩:=nine HF0.o.x
     try subst hk
     have g1:¬(20:Int)<(z1:Int):=(by omega);clear h1;go_enter Tryz.func3,Tryz.ntmps3;go_wp2_with fail;refine(HS1.o _ HF0.o.bl).mono ?_;rintro e w1 ⟨rfl,hb1⟩;have HF1:=aB (HF0.o.call hb1);clear hb1 e0 e1 e2 e3 e4 e5 e6 e7 e8;obtain⟨e0,e1,e2,e3,e4,e5,e6,e7,e8⟩:=nine HF1.o.x;obtain⟨f0,f1⟩:=twoC20 HF1.o.y;go_wp2_with fail;refine(HSL.o _ HF1.o.bl).mono ?_;rintro e w2 ⟨rfl,rfl⟩;go_wp2_with fail;refine(HWO.o _ (HF1.o).bl).mono ?_;rintro e w9 ⟨rfl,hb9⟩;go_wp2;go_ret;exact⟨by first |rfl|trivial,(HF1.o).bl.call hb9⟩
    ·have hy2:(q:Int)<=y:=by
      rcases h with h|h|h|h|h|h|h
      ·omega
      ·cases h
      ·exact absurd hk h
      ·omega
      ·omega
      ·omega
      ·exact h
     clear h;obtain⟨sv,rfl,hL⟩:=hv;obtain⟨a1,cap,rfl,-⟩:=hL.shape;clear hL;obtain⟨k,t,⟨v1,v2,v3⟩,p,o,n,args⟩:=b;simp only[Bd.k,Bd.t,Bd.v,Bd.p,Bd.o,Bd.n,Bd.args] at *;generalize args.length=m at *;have HF0:=aB (OrF.start (cellsB k t v1 v2 v3 p o n (.slice a1 m cap)) x y W);obtain⟨e0,e1,e2,e3,e4,e5,e6,e7,e8⟩:=nine HF0.o.x
     try subst hk
     have g1:¬(20:Int)<(z1:Int):=(by omega);clear h1;go_enter Tryz.func3,Tryz.ntmps3;go_wp2_with fail;refine(HS1.o _ HF0.o.bl).mono ?_;rintro e w1 ⟨rfl,hb1⟩;have HF1:=aB (HF0.o.call hb1);clear hb1 e0 e1 e2 e3 e4 e5 e6 e7 e8;obtain⟨e0,e1,e2,e3,e4,e5,e6,e7,e8⟩:=nine HF1.o.x;obtain⟨f0,f1⟩:=twoC20 HF1.o.y;go_wp2_with fail;refine(HSL.o _ HF1.o.bl).mono ?_;rintro e w2 ⟨rfl,rfl⟩;go_wp2_with fail;refine(HWO.o _ (HF1.o).bl).mono ?_;rintro e w9 ⟨rfl,hb9⟩;go_wp2;go_ret;exact⟨by first |rfl|trivial,(HF1.o).bl.call hb9⟩
 ·have gk:(b.k != 5)=true:=by simpa using hk
  clear h;obtain⟨sv,rfl,hL⟩:=hv;obtain⟨a1,cap,rfl,-⟩:=hL.shape;clear hL;obtain⟨k,t,⟨v1,v2,v3⟩,p,o,n,args⟩:=b;simp only[Bd.k,Bd.t,Bd.v,Bd.p,Bd.o,Bd.n,Bd.args] at *;generalize args.length=m at *;have HF0:=aB (OrF.start (cellsB k t v1 v2 v3 p o n (.slice a1 m cap)) x y W);obtain⟨e0,e1,e2,e3,e4,e5,e6,e7,e8⟩:=nine HF0.o.x
  try subst hk
  have g1:¬(20:Int)<(z1:Int):=(by omega);clear h1;go_enter Tryz.func3,Tryz.ntmps3;go_wp2_with fail;refine(HS1.o _ HF0.o.bl).mono ?_;rintro e w1 ⟨rfl,hb1⟩;have HF1:=aB (HF0.o.call hb1);clear hb1 e0 e1 e2 e3 e4 e5 e6 e7 e8;obtain⟨e0,e1,e2,e3,e4,e5,e6,e7,e8⟩:=nine HF1.o.x;obtain⟨f0,f1⟩:=twoC20 HF1.o.y;go_wp2_with fail;refine(HSL.o _ HF1.o.bl).mono ?_;rintro e w2 ⟨rfl,rfl⟩;go_wp2_with fail;refine(HWO.o _ (HF1.o).bl).mono ?_;rintro e w9 ⟨rfl,hb9⟩;go_wp2;go_ret;exact⟨by first |rfl|trivial,(HF1.o).bl.call hb9⟩
end
end Go.Proofs.YtkimpcmkminffaaGreatDoor
