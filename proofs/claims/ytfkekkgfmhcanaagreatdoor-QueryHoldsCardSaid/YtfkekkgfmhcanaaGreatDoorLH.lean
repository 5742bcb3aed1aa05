/- Texts beside the shared ones. -/
import Derived.Test.YtfkekkgfmhcanaaGreatDoorX0
import Derived.Test.YtfkekkgfmhcanaaGreatDoorZN
import Derived.Test.YtfkekkgfmhcanaaGreatDoorZS
import Derived.Test.YtfkekkgfmhcanaaGreatDoorZI
import Derived.Test.YtfkekkgfmhcanaaGreatDoorZM
import Derived.Test.YtfkekkgfmhcanaaGreatDoorQ6
import Derived.Test.YtfkekkgfmhcanaaGreatDoorQ9
namespace Go.Proofs.YtfkekkgfmhcanaaGreatDoor
open Go.RowKit
open _root_.Go.Lib renaming hid->aB
open _root_.Nat renaming le_refl->aH
open _root_.Go.Region renaming wanted->jG
set_option maxRecDepth 100000
set_option maxHeartbeats 8000000
section
theorem wpList_load_rowG{P:Program}{ops:Array Oper}{rest:List Oper}{o:Oper}{a:Act}{w:World}{Q:Exit->Act->World->Prop}(hw:jG o (yielded ops a.tmps)=true)(ty:TypeId)(x:Operand)(ho:o.op= .load ty x)
  (g:Nat) (hx:a.eval x= .pointer (some ⟨g,0,none⟩)) (t:TypeId) (cs:Array Value) (fr:Nat×Nat) (d:TypeDesc) (hg:w.heap[g]?=some (.cells cs t fr))
  (hu:P.underlying ty=some d) (hd:(match d with | .struct _| .array _ _=>true|_=>false)=true) (hi:(P.info? ty).map (·.size)=some cs.size)
  (h:wpList P ops Q rest (a.put o.dst (.agg cs)) w):wpList P ops Q (o::rest) a w:=
 wpList_step fun _ hK=>by rw[if_pos hw];exact wp_load_row ty x ho g hx t cs fr d hg hu hd hi (hK _ _ h)
theorem deep_of{q:Qu}(h:deepQ q<=60):DeepQ q:=by
 unfold deepQ at h;have h1:nV (q.items.map It.x)<=60:=(by omega);have h2:nV (q.joins.map Jo.on)<=60:=(by omega);have h3:nV q.group<=60:=(by omega);have h4:nV (q.orders.map Od.x)<=60:=(by omega);exact⟨fun i m=>deeps_of h1 _ (List.mem_map.2 ⟨i,m,rfl⟩),fun i m=>deeps_of h2 _ (List.mem_map.2 ⟨i,m,rfl⟩),by omega,deeps_of h3,by omega,fun i m=>deeps_of h4 _ (List.mem_map.2 ⟨i,m,rfl⟩)⟩
def textQN(q:Qu):List UInt8:=if d3e q=true then d8n q else[]
def ckQN(q:Qu):Int:=if d3e q=true then 0 else 2
theorem qText_any{q:Qu}(hq:e1a q)(W:World)(v:Value)(hv:d5o W q v)(hG:nD W):Calls Tryz.prog 8 #[v] W fun e w'=>e= .returned (.tuple #[S (textQN q),.int .i64 (ckQN q)])/\Bl W w':=by
 unfold textQN ckQN;cases h:d3e q
 ·exact qText_no hq h W v hv hG
 ·exact e3l hq h W v hv hG
abbrev qS(q:Qu)(ai:Option Addr)(ci:Nat)(aj:Option Addr)(cj:Nat)(aw:Option Addr)(cw:Nat)(ag:Option Addr)(cg:Nat)(ah:Option Addr)(ch:Nat)(ao:Option Addr)(co:Nat):List Value:=
 quC q (.slice ai q.items.length ci) (.slice aj q.joins.length cj) (.slice aw q.wher.args.length cw) (.slice ag q.group.length cg) (.slice ah q.having.args.length ch) (.slice ao q.orders.length co)
theorem qholds_off(q:Qu)(W:World)(v:Value)(hv:d5o W q v)(hG:nD W)(few:Bool)(s:List UInt8)(c d:Int)(hc:c=0\/c=2)
  (hfe:∀w,Bl W w->Calls Tryz.prog 6 #[v] w fun e w'=>e= .returned (.bool few)/\Bl w w')
  (htx:few=true->∀w,Bl W w->Calls Tryz.prog 8 #[v] w fun e w'=>e= .returned (.tuple #[S s,.int .i64 c])/\Bl w w')
  (hde:few=true->∀w,Bl W w->Calls Tryz.prog 10 #[v] w fun e w'=>e= .returned (.int .i64 d)/\Bl w w')
  (hoff:few=false\/c=2\/4000<s.length\/60<d) (hs:s.length<=100000000):Calls Tryz.prog 3 #[v] W (Yes W):=by
 have HG:=aB hG;have HFE:=aB hfe;obtain⟨si,sj,sw,sg,sh,so,rfl,hp⟩:=hv;obtain⟨ai,ci,aj,cj,aw,cw,ag,cg,ah,ch,ao,co,rfl,rfl,rfl,rfl,rfl,rfl⟩:=hp.shapes;clear hp hG hfe;have HX0:=aB (aN W (.cells (qS q ai ci aj cj aw cw ag cg ah ch ao co).toArray 36));have HB0:=aB ((Bl.refl W).alloc (.cells (qS q ai ci aj cj aw cw ag cg ah ch ao co).toArray 36));cases hfs:few
 case false=>
  clear htx hde hoff;subst hfs;go_enter Tryz.func3,Tryz.ntmps3;go_wp2_with (refine wpList_load_row rfl 36 (.tmp 1) rfl W.heap.size rfl 36 _ (0,0) _ HX0.o Tryz.underlying36 rfl tC ?_)
  go_wp2_with fail;refine(HFE.o _ HB0.o).mono ?_;rintro e w1 ⟨rfl,hb1⟩;have HB1:=aB (HB0.o.call hb1);clear hb1;go_wp2_with fail
  (with_reducible refine(d7c _ (HG.o.bl HB1.o)).mono ?_)
  rintro e w9 ⟨rfl,hb9⟩;go_wp2;go_ret;exact⟨rfl,HB1.o.call hb9⟩
 case true=>
  have HTX:=aB (htx hfs);have HDE:=aB (hde hfs);clear htx hde;subst hfs;go_enter Tryz.func3,Tryz.ntmps3;go_wp2_with (refine wpList_load_row rfl 36 (.tmp 1) rfl W.heap.size rfl 36 _ (0,0) _ HX0.o Tryz.underlying36 rfl tC ?_)
  go_wp2_with fail;refine(HFE.o _ HB0.o).mono ?_;rintro e w1 ⟨rfl,hb1⟩;have HB1:=aB (HB0.o.call hb1);have HX1:=aB (keep1 HX0.o hb1);clear hb1;go_wp2_with (refine wpList_load_row rfl 36 (.tmp 1) rfl W.heap.size rfl 36 _ (0,0) _ HX1.o Tryz.underlying36 rfl tC ?_)
  go_wp2_with fail;refine(HTX.o _ HB1.o).mono ?_;rintro e w2 ⟨rfl,hb2⟩;have HB2:=aB (HB1.o.call hb2);have HX2:=aB (keep1 HX1.o hb2);clear hb2;go_wp2_with fail
  (with_reducible refine(d7k _ _).mono ?_)
  rintro e w' ⟨rfl,rfl⟩;rcases hc with rfl|rfl
  ·by_cases hl:4000<s.length
   ·have hl':4000<(s.length:Int):=by omega
    clear hl hoff;go_wp2_with fail
    (with_reducible refine(d7c _ (HG.o.bl HB2.o)).mono ?_)
    rintro e w9 ⟨rfl,hb9⟩;go_wp2;go_ret;exact⟨rfl,HB2.o.call hb9⟩
   ·have hl':¬4000<(s.length:Int):=by omega
    have hd:60<d:=by rcases hoff with h|h|h|h<;>first |cases h|omega
    clear hl hoff;go_wp2_with (refine wpList_load_rowG (by first |rfl|(simp[jG,yielded];done)|(simp[jG,yielded];omega)) 36 (.tmp 1) rfl W.heap.size rfl 36 _ (0,0) _ HX2.o Tryz.underlying36 rfl tC ?_)
    go_wp2_with fail;refine(HDE.o _ HB2.o).mono ?_;rintro e w3 ⟨rfl,hb3⟩;have HB3:=aB (HB2.o.call hb3);go_wp2_with fail
    (with_reducible refine(d7c _ (HG.o.bl HB3.o)).mono ?_)
    rintro e w9 ⟨rfl,hb9⟩;go_wp2;go_ret;exact⟨rfl,HB3.o.call hb9⟩
  ·clear hoff;go_wp2_with fail
   (with_reducible refine(d7c _ (HG.o.bl HB2.o)).mono ?_)
   rintro e w9 ⟨rfl,hb9⟩;go_wp2;go_ret;exact⟨rfl,HB2.o.call hb9⟩
theorem qholds_on(q:Qu)(W:World)(v:Value)(hv:d5o W q v)(hG:nD W)(hok:e1a q)(hr:d3e q=true)(hf:FitsQ q)(hsm:d9u 1000000 q)(hs:(d8n q).length<=4000)(hd:deepQ q<=60)
  (hfe:∀w,Bl W w->Calls Tryz.prog 6 #[v] w fun e w'=>e= .returned (.bool true)/\Bl w w'):Calls Tryz.prog 3 #[v] W (Yes W):=by
 have HG:=aB hG;have HFE:=aB hfe;have HV:=aB hv;have HTX:Hid (∀w v,Bl W w->d5o w q v->Calls Tryz.prog 8 #[v] w fun e w'=>e= .returned (.tuple #[S (d8n q),.int .i64 0])/\Bl w w'):=fun w v hb hv=>e3l hok hr w v hv (hG.bl hb);have HDE:Hid (∀w v,d5o w q v->Calls Tryz.prog 10 #[v] w fun e w'=>e= .returned (.int .i64 (deepQ q:Int))/\Bl w w'):=fun w v hv=>deep17_any hsm hv;have HPA:Hid (∀w,Bl W w->Calls Tryz.prog 11 #[S (d8n q)] w fun e w'=>∃ai ni ci aj nj cj aw nw cw ag ng cg ah nh ch ao no co,e= .returned (.tuple #[QV q (.slice ai ni ci) (.slice aj nj cj) (.slice aw nw cw) (.slice ag ng cg) (.slice ah nh ch) (.slice ao no co),.int .i64 0])/\Bl w w'/\
   d5o w' q (QV q (.slice ai ni ci) (.slice aj nj cj) (.slice aw nw cw) (.slice ag ng cg) (.slice ah nh ch) (.slice ao no co))):=fun w hb=>by
  have h:=d5l (d8n q) (by omega) w (hG.bl hb);refine h.mono fun e w' h=>?_;have h1:=h.open;rw[parseQ_text hr hf (deep_of hd) hs] at h1;exact h1
 have HSM:Hid (∀w v u,d5o w q v->d5o w q u->Calls Tryz.prog 12 #[v,u] w fun e w'=>e= .returned (.bool true)/\Bl w w'):=fun w v u hv hu=>by
  have h:=qSame_any hsm hv hu;rw[sameQ_self] at h;exact h
 have hs':¬4000<((d8n q).length:Int):=(by omega);have hd':¬60<(deepQ q:Int):=(by omega);obtain⟨si,sj,sw,sg,sh,so,rfl,hp⟩:=hv;obtain⟨xi,yi,xj,yj,xw,yw,xg,yg,xh,yh,xo,yo,rfl,rfl,rfl,rfl,rfl,rfl⟩:=hp.shapes;clear hp hG hfe hok hr hf hsm hs hd;obtain⟨s,hS⟩:∃s,Hid (d8n q=s):=⟨_,rfl⟩
 obtain⟨d,hD⟩:∃d,Hid (deepQ q=d):=⟨_,rfl⟩
 rw[hS.o] at HTX HPA hs';rw[hD.o] at HDE hd';clear hS hD;have HX0:=aB (aN W (.cells (qS q xi yi xj yj xw yw xg yg xh yh xo yo).toArray 36));have HB0:=aB ((Bl.refl W).alloc (.cells (qS q xi yi xj yj xw yw xg yg xh yh xo yo).toArray 36));go_enter Tryz.func3,Tryz.ntmps3;go_wp2_with (refine wpList_load_row rfl 36 (.tmp 1) rfl W.heap.size rfl 36 _ (0,0) _ HX0.o Tryz.underlying36 rfl tC ?_)
 go_wp2_with fail;refine(HFE.o _ HB0.o).mono ?_;rintro e w1 ⟨rfl,hb1⟩;have HB1:=aB (HB0.o.call hb1);have HX1:=aB (keep1 HX0.o hb1);clear hb1;go_wp2_with (refine wpList_load_row rfl 36 (.tmp 1) rfl W.heap.size rfl 36 _ (0,0) _ HX1.o Tryz.underlying36 rfl tC ?_)
 go_wp2_with fail;refine(HTX.o _ _ HB1.o (HV.o.bl HB1.o)).mono ?_;rintro e w2 ⟨rfl,hb2⟩;have HB2:=aB (HB1.o.call hb2);have HX2:=aB (keep1 HX1.o hb2);clear hb2;go_wp2_with fail
 (with_reducible refine(d7k _ _).mono ?_)
 rintro e w' ⟨rfl,rfl⟩;go_wp2_with (refine wpList_load_rowG (by first |rfl|(simp[jG,yielded];done)|(simp[jG,yielded];omega)) 36 (.tmp 1) rfl W.heap.size rfl 36 _ (0,0) _ HX2.o Tryz.underlying36 rfl tC ?_)
 go_wp2_with fail;refine(HDE.o _ _ (HV.o.bl HB2.o)).mono ?_;rintro e w3 ⟨rfl,hb3⟩;have HB3:=aB (HB2.o.call hb3);have HX3:=aB (keep1 HX2.o hb3);clear hb3;go_wp2_with fail;refine(HPA.o _ HB3.o).mono ?_;rintro e w4 ⟨ai,ni,ci,aj,nj,cj,aw,nw,cw,ag,ng,cg,ah,nh,ch,ao,no,co,rfl,hb4,hv4⟩;have HV4:=aB hv4;have HB4:=aB (HB3.o.call hb4);have HX4:=aB (keep1 HX3.o hb4);clear hb4 hv4;have HY5:=aB (aN w4 (.cells zQL.toArray 36));have HA5:=aB ((Bl.refl w4).alloc (.cells zQL.toArray 36));go_wp2_with (refine bA rfl rfl rfl rfl (quC q (.slice ai ni ci) (.slice aj nj cj) (.slice aw nw cw) (.slice ag ng cg) (.slice ah nh ch) (.slice ao no co)) HY5.o rfl rfl tC rfl ?_)
 intro w5 hB5 hX5;have HX5:=aB hX5;have HB5:=aB ((HB4.o).call (HA5.o.but hB5 (aH _)));have HC5:=aB (HA5.o.but hB5 (aH _));clear hB5 hX5 HY5 HA5;have HX5Q:=aB (keep1 HX4.o HC5.o);have HV5:=aB (HV4.o.bl HC5.o);go_wp2_with (refine wpList_load_row rfl 36 (.tmp 5) rfl w4.heap.size rfl 36 _ (0,0) _ HX5.o Tryz.underlying36 rfl tC ?_)
 go_wp2_with fail;refine(HTX.o _ _ HB5.o HV5.o).mono ?_;rintro e w6 ⟨rfl,hb6⟩;have HB6:=aB (HB5.o.call hb6);have HX6:=aB (keep1 HX5.o hb6);have HX6Q:=aB (keep1 HX5Q.o hb6);have HV6:=aB (HV5.o.bl hb6);clear hb6;go_wp2_with fail
 (with_reducible refine(d7k _ _).mono ?_)
 rintro e w' ⟨rfl,rfl⟩;go_wp2_with fail
 (with_reducible refine(d7k _ _).mono ?_)
 rintro e w' ⟨rfl,rfl⟩;go_wp2_with (first
  |(refine wpList_load_rowG (by first |rfl|(simp[jG,yielded];done)|(simp[jG,yielded];omega)) 36 (.tmp 5) rfl w4.heap.size rfl 36 _ (0,0) _ HX6.o Tryz.underlying36 rfl tC ?_)
  |(refine wpList_load_rowG (by first |rfl|(simp[jG,yielded];done)|(simp[jG,yielded];omega)) 36 (.tmp 1) rfl W.heap.size rfl 36 _ (0,0) _ HX6Q.o Tryz.underlying36 rfl tC ?_))
 go_wp2_with fail;refine(HSM.o _ _ _ HV6.o (HV.o.bl HB6.o)).mono ?_;rintro e w7 ⟨rfl,hb7⟩;have HB7:=aB (HB6.o.call hb7);clear hb7;go_wp2_with fail
 (with_reducible refine(d7c _ (HG.o.bl HB7.o)).mono ?_)
 rintro e w9 ⟨rfl,hb9⟩;go_wp2;go_ret;exact⟨rfl,HB7.o.call hb9⟩
theorem qholds_all(q:Qu)(W:World)(v:Value)(hv:d5o W q v)(hg:GoodQ q)(hG:nD W):Calls Tryz.prog 3 #[v] W (Yes W):=by
 have hfe:∀w,Bl W w->Calls Tryz.prog 6 #[v] w fun e w'=>e= .returned (.bool (fewB q))/\Bl w w':=fun w hb=>few17_any (hv.bl hb);cases hb:fewB q
 ·rw[hb] at hfe;exact qholds_off q W v hv hG false [] 0 0 (.inl rfl) hfe (fun h=>by cases h) (fun h=>by cases h) (.inl rfl) (by simp)
 ·rw[hb] at hfe;obtain⟨hok,hf,hsm⟩:=few_ok hg hb;have htx:∀w,Bl W w->Calls Tryz.prog 8 #[v] w fun e w'=>e= .returned (.tuple #[S (textQN q),.int .i64 (ckQN q)])/\Bl w w':=fun w hb=>qText_any hok w v (hv.bl hb) (hG.bl hb);have hde:∀w,Bl W w->Calls Tryz.prog 10 #[v] w fun e w'=>e= .returned (.int .i64 (deepQ q:Int))/\Bl w w':=fun w hb=>deep17_any hsm (hv.bl hb);cases hC:d3e q
  ·exact qholds_off q W v hv hG true _ _ _ (.inr (by unfold ckQN;rw[hC];rfl)) hfe (fun _=>htx) (fun _=>hde) (.inr (.inl (by unfold ckQN;rw[hC];rfl))) (by unfold textQN;rw[hC];simp)
  ·have e1:textQN q=d8n q:=if_pos hC;have e2:ckQN q=0:=if_pos hC;rw[e1,e2] at htx;by_cases hl:4000<(d8n q).length
   ·exact qholds_off q W v hv hG true _ _ _ (.inl rfl) hfe (fun _=>htx) (fun _=>hde) (.inr (.inr (.inl hl))) (hok.text hC)
   by_cases hd:60<deepQ q
   ·exact qholds_off q W v hv hG true _ _ _ (.inl rfl) hfe (fun _=>htx) (fun _=>hde) (.inr (.inr (.inr (by omega)))) (hok.text hC)
   exact qholds_on q W v hv hG hok hC hf hsm (by omega) (by omega) hfe
end
end Go.Proofs.YtfkekkgfmhcanaaGreatDoor
