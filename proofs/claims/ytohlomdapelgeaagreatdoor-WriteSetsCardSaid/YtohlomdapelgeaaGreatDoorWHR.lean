/- Texts beside the shared ones. -/
import Derived.Test.YtohlomdapelgeaaGreatDoorWX0
import Derived.Scope
namespace Go.Proofs.YtohlomdapelgeaaGreatDoor
open Go.RowKit
open _root_.Array renaming replicate->kD
open _root_.Go.Region renaming noSelect->jZ
set_option maxRecDepth 100000
section
section
variable {P:Program} {ops:Array Oper} {Q:Exit->Act->World->Prop}
theorem uponIn_wide(n:Nat){o:Oper}{a:Act}{K:Act->World->Prop}(r:Result Next)(h:o.upon P a K Q r):o.uponIn Fence.wide n P a K Q r:=by
 cases r with
 |ok x w=>
  cases x with
  |value v=>exact h
  |skip=>exact h
  |defer d=>exact h
  |enter f args=>exact⟨fun e=>(by cases e),callsIn_wide.2 h⟩
  |row r args=>exact⟨fun e=>(by cases e),fun c cs _=>let⟨v,w',r,s⟩:=h c cs;⟨v,w',r,stepsIn_wide.2 s⟩⟩
  |_=>exact(h:False).elim
 |halt x w=>
  cases x with
  |panic v=>exact h
  |_=>exact(h:False).elim
theorem wpIn_wide_of(n:Nat){o:Oper}(ho:∀c,o.op≠ .defer c){a:Act}{w:World}{K:Act->World->Prop}(h:o.wp P a w K Q):o.wpIn Fence.wide n P a w K Q:=by
 refine⟨fun _ _=>trivial,?_⟩;rw[Oper.semAt_plain _ _ _ ho];exact uponIn_wide n _ h
theorem wpOpsIn_wide(n:Nat)(hd:d8v ops=true)(hl:¬LetsOut Q):∀(L:List Nat) (a:Act) (w:World),wpOps P ops Q L a w->wpOpsIn Fence.wide n P ops Q L a w
 |[],_,_,h=>h
 |i::L,a,w,h=>by
  simp only[wpOps] at h;simp only[wpOpsIn];cases hi:ops[i]? with
  |none=>
   rw[hi] at h;exact wpOpsIn_wide n hd hl L a w h
  |some o=>
   rw[hi] at h;simp only at h⊢;split
   ·rename_i hw;rw[if_pos hw] at h;rcases h with h|h
    ·exact Oper.wpIn_mono (fun a w hk=>wpOpsIn_wide n hd hl L a w hk) (wpIn_wide_of n (e2i hd hi) h)
    ·exact absurd h.2 hl
   ·rename_i hw;rw[if_neg hw] at h;exact⟨fun _ _=>trivial,wpOpsIn_wide n hd hl L _ w h⟩
theorem wpIn_region_sdw{n id:Nat}{a:Act}{w:World}(S:World->Prop)(s:Sc)(hm:P.follows .mixedOrders=true)(hs:jZ ops=true)(hB:scB ops ops.size s (kD ops.size false)=true)
  (hd:d8v ops=true) (hl:∀a w,Q .outgrown a w->False) (hS:S w.drew) (h:∀wd,Hid (Bl w wd)->S wd->a2w P ops (NoPanic Q) S s a wd):(Code.region id ops true).wpIn Fence.wide n P Q a w:=
 Code.wpIn_mono (Q:=NoPanic Q) NoPanic.imp (wpIn_region_draw fun t=>by
  simp only[Region.schedule,hm,Bool.true_or,if_true];exact wpOpsIn_wide (Q:=NoPanic Q) n hd (fun⟨a,w,h⟩=>hl a w h) _ a _ (wpAny_sound ops.size t _ a _ (wpAny_of_held _ _ _ _ (a5f hs (fun _ _ _ _ _ h=>h) s _ _ a _ hB hS (h _ ((Bl.refl w).drew) hS)))))
end
section
variable {F:Fence} {n:Nat} {P:Program} {Q:Exit->Act->World->Prop} {a:Act} {w:World}
theorem wpIn_scope{c:Code}(h:c.wpIn F n P (Exit.noGoto Q) a w):(Code.scope c).wpIn F n P Q a w:=by
 intro b k cs hro hb hr;have h0:(lone (b.atR a (.code (.scope c)::k)) cs w).fenced P F:=fenced_calm hb hr rfl;have hs:step P (lone (b.atR a (.code (.scope c)::k)) cs w)= .next (lone (b.atR a (.code c:: .inScope c::k)) cs w):=step_lone_go (by simp[stepG,stepG.exec,Frame.atR]);have hi:∀a w,step P (lone (b.atR a (.inScope c::k)) cs w)= .next (lone (b.atR a k) cs w):=fun a w=>step_lone_go (by simp[stepG,stepG.exec,Frame.atR]);obtain⟨e,a₁,w₁,hq,harr⟩:=h b (.inScope c::k) cs hro hb hr;cases e with
 |normal=>exact⟨.normal,a₁,w₁,hq,.head h0 hs (StepsIn.trans harr (.one (fenced_calm hb hr rfl) (hi _ _)))⟩
 |exit id=>
  have hx:exitTo id (.inScope c::k)=exitTo id k:=(by simp[exitTo]);exact⟨.exit id,a₁,w₁,hq,fun k' hk=> .head h0 hs (harr.1 k' (by rw[hx];exact hk)),fun hr' hk=>let⟨k₁,h1,h2⟩:=harr.2 hr' (by rw[hx];exact hk);⟨k₁,h1,.head h0 hs h2⟩⟩
 |goto l=>exact hq.elim
 |ret=>exact⟨_,a₁,w₁,hq,.of_steps (.one h0 hs) harr⟩
 |panic ch=>exact⟨_,a₁,w₁,hq,.of_steps (.one h0 hs) harr⟩
 |outgrown=>exact⟨_,a₁,w₁,hq,.of_steps (.one h0 hs) harr⟩
end
end
end Go.Proofs.YtohlomdapelgeaaGreatDoor
