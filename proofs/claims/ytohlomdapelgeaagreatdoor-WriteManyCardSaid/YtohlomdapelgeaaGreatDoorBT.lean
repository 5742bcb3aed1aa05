/- Texts KA. -/
import Derived.Test.YtohlomdapelgeaaGreatDoorAL
import Derived.Test.YtohlomdapelgeaaGreatDoorBU
import Derived.Test.YtohlomdapelgeaaGreatDoorBS
import Derived.Test.YtohlomdapelgeaaGreatDoorTie
import Derived.Test.YtohlomdapelgeaaGreatDoorCards
import Derived.SevenTiedAt
import Derived.OpenShut
import Derived.Deep.Strs
namespace Go.Proofs.YtohlomdapelgeaaGreatDoor
open _root_.Go.Proofs.Tryz
open Go.ChangeShapes Go.WideShapes Go.ChangeAt Go.RowKit
open Go.ChangeMaps (open_string shut_string)
set_option maxRecDepth 100000
set_option maxHeartbeats 2000000
section
theorem wmany_lifted(os:Os)(started:os.Started)(H:Type)(enc:TypeId×Value->H):
  ReturnsInHanded {} Tryz.checked os 3 .any (fun w args=>(Rows.writeManySpec.pre enc prog Tryz.f3 [] false w args/\laidMetH prog b2j w)/\sizedMet enc prog Tryz.f3 (OpenSpec.ofChange Rows.writeManySpec) false w args)
   (Rows.writeManySpec.post enc prog Tryz.f3 false true false false):=by
 refine wrap (C:=Tryz.checked) (X:=fun w _=>laidMetH prog b2j w) (fun _ _ _ hh h=>h.of_heap hh) own started af func3
  (ChangeSpec.witness_shaped (enc:=enc) (C:=Tryz.checked) (os:=os) (X:=fun w _=>laidMetH prog b2j w) false (World.laidAll prog os b2j) #[.int .i64 0,.int .i64 0,.int .i64 0] 8 (World.laidAll_os _ _ _)
   (World.shaped_of_ZipB af af) af af af
   (by rw[MakeChecks.laidMetH_plain _ _ _ af];exact laidMet_laidAll _ af af)) ?_
 intro W base args ds gs before hval0 hW _ hL hsh;have hval:∀(j:Nat) t v,Tryz.f3.params[j]?=some t->args[j]?=some v->Value.okWide prog W .any base t v:=hval0;have hW':=hW;obtain⟨p,q,hA0,hV,hpq,_,_⟩:=hW;have hA:DataW.TrodAll enc prog W 0 (fun _=>true) true Tryz.f3.params.toList args.toList ds p:=hA0;rw[params3] at hA hval;obtain⟨v0,v1,v2,d0,d1,d2,p0,p1,p2,rfl,rfl,rfl,h0,h1,h2⟩:=trodAll_three hA;obtain⟨rfl,rfl⟩:=trodVars_none hV;obtain⟨i,rfl,rfl,rfl,wi⟩:=open_int underlying3 (hval 0 3 v0 rfl rfl) h0;obtain⟨j,rfl,rfl,rfl,wj⟩:=open_int underlying3 (hval 1 3 v1 rfl rfl) h1;obtain⟨k,rfl,rfl,rfl,wk⟩:=open_int underlying3 (hval 2 3 v2 rfl rfl) h2;refine(wmany_all i j k W (c3o hL hsh)).mono fun e W' ⟨he,hb⟩=>?_;subst he;exact⟨_,rfl,b8p laidOut underlying4 af (by rw[params3];intro t ht;have h3:t=3:=cm;subst h3;exact⟨by kernel_rfl,of_decide_eq_true af⟩) rfl hW' rfl hb⟩
theorem wmany_card:Rows.WriteManyCardSaid:=wmany_card_of wmany_lifted
#print axioms wmany_card
end
end Go.Proofs.YtohlomdapelgeaaGreatDoor
