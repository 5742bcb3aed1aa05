/- Texts beside the shared ones. -/
import Derived.Test.YtkimpcmkminffaaGreatDoorHX0
import Derived.RangeFuncCalls
import Derived.OwnWalkIn
namespace Go.Proofs.YtkimpcmkminffaaGreatDoor
open Go.RowKit
open _root_.Array renaming replicate->kD
open _root_.Go.Region renaming noSelect->jZ
set_option maxRecDepth 100000
section
section
variable {P:Program} {ops:Array Oper} {Q:Exit->Act->World->Prop}
def d8v(ops:Array Oper):Bool:=ops.all fun o=>match o.op with | .defer _=>false|_=>true
theorem e2i(h:d8v ops=true){i:Nat}{o:Oper}(hi:ops[i]?=some o)(c:Call):o.op≠ .defer c:=by
 intro e;have hm:=Array.mem_of_getElem? hi;have:=(Array.all_eq_true_iff_forall_mem.1 h) o hm;rw[e] at this;cases this
theorem e2y(l n:Nat){o:Oper}{a:Act}{K:Act->World->Prop}(r:Result Next)(h:o.upon P a K Q r):o.uponIn (Fence.wide.inRound l) n P a K Q r:=by
 cases r with
 |ok x w=>
  cases x with
  |value v=>exact h
  |skip=>exact h
  |defer d=>exact h
  |enter f args=>exact⟨fun e=>(by cases e),CallsIn.inRound l (callsIn_wide.2 h)⟩
  |row r args=>exact⟨fun e=>(by cases e),fun c cs _=>let⟨v,w',r,s⟩:=h c cs;⟨v,w',r,stepsIn_wide.2 s⟩⟩
  |_=>exact(h:False).elim
 |halt x w=>
  cases x with
  |panic v=>exact h
  |_=>exact(h:False).elim
theorem e1g(l n:Nat){o:Oper}(ho:∀c,o.op≠ .defer c){a:Act}{w:World}{K:Act->World->Prop}(h:o.wp P a w K Q):o.wpIn (Fence.wide.inRound l) n P a w K Q:=by
 refine⟨fun _ _=>trivial,?_⟩;rw[Oper.semAt_plain _ _ _ ho];exact e2y l n _ h
theorem d5j(l n:Nat)(hd:d8v ops=true)(hl:¬LetsOut Q):∀(L:List Nat) (a:Act) (w:World),wpOps P ops Q L a w->wpOpsIn (Fence.wide.inRound l) n P ops Q L a w
 |[],_,_,h=>h
 |i::L,a,w,h=>by
  simp only[wpOps] at h;simp only[wpOpsIn];cases hi:ops[i]? with
  |none=>
   rw[hi] at h;exact d5j l n hd hl L a w h
  |some o=>
   rw[hi] at h;simp only at h⊢;split
   ·rename_i hw;rw[if_pos hw] at h;rcases h with h|h
    ·exact Oper.wpIn_mono (fun a w hk=>d5j l n hd hl L a w hk) (e1g l n (e2i hd hi) h)
    ·exact absurd h.2 hl
   ·rename_i hw;rw[if_neg hw] at h;exact⟨fun _ _=>trivial,d5j l n hd hl L _ w h⟩
theorem d3p{l n id:Nat}{a:Act}{w:World}(S:World->Prop)(s:Sc)(hm:P.follows .mixedOrders=true)(hs:jZ ops=true)(hB:scB ops ops.size s (kD ops.size false)=true)
  (hQ:∀(c:_) (a:Act) (d:Option Tmp) (v:Value) (w:World),Q (.panic c) (a.put d v) w->Q (.panic c) a w) (hd:d8v ops=true) (hl:∀a w,Q .outgrown a w->False) (hS:S w.drew) (h:∀wd,Hid (Bl w wd)->S wd->a2w P ops Q S s a wd):(Code.region id ops true).wpIn (Fence.wide.inRound l) n P Q a w:=
 wpIn_region_draw fun t=>by
  simp only[Region.schedule,hm,Bool.true_or,if_true];exact d5j l n hd (fun⟨a,w,h⟩=>hl a w h) _ a _ (wpAny_sound ops.size t _ a _ (wpAny_of_held _ _ _ _ (a5f hs hQ s _ _ a _ hB hS (h _ ((Bl.refl w).drew) hS))))
end
end
end Go.Proofs.YtkimpcmkminffaaGreatDoor
